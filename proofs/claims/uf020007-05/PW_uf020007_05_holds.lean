import PyProof.Rows.All
import Wide.All
import OpenK.AllK
import Wide.FinOn
import Open.Row
import PyProof.Fits
import PyProof.SameEqv
import PyProof.Rows.InDataRows
import PyProof.TupleOfSeq
import PyProof.ListCopy
import PyProof.Rows.TupMore
import KE.KRevIter
import PyProof.Rows.Range3
import PyProof.CompFree
import PyProof.CompUse
import PyProof.FitsBits
import KE.KTryDeep
import PyProof.ExcBaseAll.ValueError
import PyProof.ExcArgsOwn
import PyProof.ExcAttrAll.ValueError
import KE.RegKTryMore
import KE.RegKIsAll
import PySem.Challenge.RW_uf020007_05
set_option Elab.async false
set_option autoImplicit false
set_option genSizeOf false
set_option genInjectivity false
namespace Mine
open PySem

/-! the mini language: values, expressions, statements -/

inductive V where
  | int (i : Int)
  | bool (b : Bool)
  | none
  | str (s : Str)
  | tup (xs : List V)
  | lst (n : Nat)
  | fn (k : Nat)
  | exc (k : Nat)

abbrev Hp := List (List V)
abbrev Loc := List (Option V)

inductive BOp where
  | add | sub | mul | fdiv | mod | pow
inductive COp where
  | lt | le | gt | ge | eq | ne | isin | notin | is
inductive Bi where
  | abs | len | int | list | tuple | min | listrev
inductive Ty where
  | int | bool | tuple | list | cls (k : Nat)

mutual
inductive PE where
  | cint (i : Int)
  | cbool (b : Bool)
  | cstr (s : Str)
  | cnone
  | var (i : Nat)
  | fnv (k : Nat)
  | glob (x : Str) (a b : Int)
  | bin (op : BOp) (a b : PE)
  | neg (a : PE)
  | nt (a : PE)
  | cmp (op : COp) (a b : PE)
  | and (es : PEs)
  | or (es : PEs)
  | call (f : Nat) (es : PEs)
  | callv (i : Nat) (es : PEs)
  | bi (b : Bi) (es : PEs)
  | isi (a : PE) (ts : List Ty)
  | idx (a b : PE)
  | slc (a : PE) (lo hi : PO)
  | tup (es : PEs)
  | lst (es : PEs)
  | comp (elt : PE) (tg : Nat) (caps : List Nat) (it : PI) (cond : PO)
inductive PEs where
  | nil
  | cons (e : PE) (r : PEs)
inductive PO where
  | no
  | some (e : PE)
inductive PI where
  | seq (e : PE)
  | rev (e : PE)
  | rng (es : PEs)
end

inductive PS where
  | skip
  | seq (a b : PS)
  | assign (i : Nat) (e : PE)
  | unpack (xs : List Nat) (e : PE)
  | setidx (i : Nat) (k e : PE)
  | app (i : Nat) (e : PE)
  | pop (i : Nat)
  | rev (i : Nat)
  | ret (e : PE)
  | ite (c : PE) (a b : PS)
  | whl (c : PE) (b : PS)
  | forr (i : Nat) (it : PI) (b : PS)
  | raise (k : Nat)
  | opaq
  | rett (f : Nat) (es : PEs)
  | asst (i f : Nat) (es : PEs)
  | itet (a b : PE) (f : Nat) (es : PEs) (x : Nat) (s t : PS)
  | tryc (x : Option Nat) (f : Nat) (es : PEs) (k e : Nat) (h : PS)

/-! locals -/
noncomputable def lget : Loc → Nat → Option V
  | [], _ => none
  | x :: _, 0 => x
  | _ :: r, n + 1 => lget r n
noncomputable def lset : Loc → Nat → V → Loc
  | [], _, _ => []
  | _ :: r, 0, v => some v :: r
  | x :: r, n + 1, v => x :: lset r n v
noncomputable def lsets : Loc → List Nat → List V → Loc
  | ρ, i :: is, v :: vs => lsets (lset ρ i v) is vs
  | ρ, _, _ => ρ

/-! looks -/
noncomputable def items (H : Hp) : V → Option (List V)
  | .tup xs => some xs
  | .lst n => H[n]?
  | _ => none
noncomputable def truthV (H : Hp) : V → Option Bool
  | .bool b => some b
  | .int i => some (i != 0)
  | .none => some false
  | .tup xs => some (!xs.isEmpty)
  | .lst n => (H[n]?).map fun xs => !xs.isEmpty
  | _ => none
noncomputable def datOf (H : Hp) : Nat → V → Option PyData
  | _, .int i => some (.int i)
  | _, .bool b => some (.bool b)
  | _, .none => some .none
  | _, .str s => if PyData.strOk s = true then some (.str s) else none
  | n + 1, .tup xs => (xs.mapM (datOf H n)).map .tuple
  | n + 1, .lst k => match H[k]? with
    | some xs => (xs.mapM (datOf H n)).map .list
    | none => none
  | _, _ => none
noncomputable def place (n : Nat) (k : Int) : Option Nat :=
  if 0 ≤ k then (if k < n then some k.toNat else none) else (if 0 ≤ k + n then some (k + n).toNat else none)
noncomputable def clampAt (n : Nat) (k : Int) : Nat :=
  (max 0 (min (if k < 0 then k + n else k) n)).toNat
noncomputable def cut (xs : List V) (lo hi : Nat) : List V := (xs.take hi).drop lo

end Mine

set_option autoImplicit false
namespace Mine
open PySem

abbrev Call := Nat → List V → Hp → (V → Hp → Prop) → (Nat → Hp → Prop) → Prop
/-- a bound on lists' lengths -/
noncomputable def lim : Nat := 1000000

/-- the look gives something, and that fits -/
noncomputable def ifSome {β : Type} (o : Option β) (P : β → Prop) : Prop := match o with
  | some v => P v
  | none => False
theorem ifSome_some {β : Type} {v : β} {P : β → Prop} : ifSome (some v) P = P v := rfl
theorem ifSome.get {β : Type} {o : Option β} {P : β → Prop} (q : ifSome o P) : ∃ v, o = some v ∧ P v := by
  cases o with
  | none => exact False.elim q
  | some v => exact ⟨v, rfl, q⟩
theorem ifSome.mk {β : Type} {o : Option β} {P : β → Prop} {v : β} (e : o = some v) (q : P v) : ifSome o P := by rw [e]; exact q
noncomputable def ifLst (o : Option V) (P : Nat → Prop) : Prop := match o with
  | some (.lst n) => P n
  | _ => False
theorem ifLst_lst {n : Nat} {P : Nat → Prop} : ifLst (some (.lst n)) P = P n := rfl
theorem ifLst.get {o : Option V} {P : Nat → Prop} (q : ifLst o P) : ∃ n, o = some (.lst n) ∧ P n := by
  cases o with
  | none => exact False.elim q
  | some v => cases v <;> first | exact False.elim q | exact ⟨_, rfl, q⟩
noncomputable def ifTup (v : V) (P : List V → Prop) : Prop := match v with
  | .tup xs => P xs
  | _ => False
theorem ifTup_tup {xs : List V} {P : List V → Prop} : ifTup (.tup xs) P = P xs := rfl
theorem ifTup.get {v : V} {P : List V → Prop} (q : ifTup v P) : ∃ xs, v = .tup xs ∧ P xs := by
  cases v <;> first | exact False.elim q | exact ⟨_, rfl, q⟩
noncomputable def ifInt (v : V) (P : Int → Prop) : Prop := match v with
  | .int i => P i
  | _ => False
theorem ifInt_int {i : Int} {P : Int → Prop} : ifInt (.int i) P = P i := rfl
theorem ifInt.get {v : V} {P : Int → Prop} (q : ifInt v P) : ∃ i, v = .int i ∧ P i := by
  cases v <;> first | exact False.elim q | exact ⟨_, rfl, q⟩

noncomputable def DivOk (b : Int) : Prop := b ≠ 0 ∧ b.natAbs < 2 ^ 8999

noncomputable def binWp (op : BOp) (x y : V) (H : Hp) (Q : V → Hp → Prop) : Prop :=
  match op, x, y with
  | .add, .int a, .int b => Q (.int (a + b)) H
  | .add, .lst m, .lst n => ifSome H[m]? fun xs => ifSome H[n]? fun ys => xs.length + ys.length ≤ lim ∧ Q (.lst H.length) (H ++ [xs ++ ys])
  | .sub, .int a, .int b => Q (.int (a - b)) H
  | .mul, .int a, .int b => IntMulOk a b ∧ Q (.int (a * b)) H
  | .mul, .lst m, .int k => ∃ x, H[m]? = some [x] ∧ 0 ≤ k ∧ k ≤ lim ∧ Q (.lst H.length) (H ++ [List.replicate k.toNat x])
  | .fdiv, .int a, .int b => DivOk b ∧ Q (.int (a.fdiv b)) H
  | .mod, .int a, .int b => b ≠ 0 ∧ Q (.int (a.fmod b)) H
  | .pow, .int a, .int b => 0 ≤ b ∧ b ≤ 1000 ∧ a.natAbs < 2 ^ 64 ∧ Q (.int (a ^ b.toNat)) H
  | _, _, _ => False

noncomputable def eqWp (x y : V) (H : Hp) (Q : Bool → Prop) : Prop :=
  ∃ da db, datOf H 4 x = some da ∧ datOf H 4 y = some db ∧ Q (PyData.eqv da db)

noncomputable def cmpWp (op : COp) (x y : V) (H : Hp) (Q : V → Hp → Prop) : Prop :=
  match op, x, y with
  | .lt, .int a, .int b => Q (.bool (decide (a < b))) H
  | .le, .int a, .int b => Q (.bool (decide (a ≤ b))) H
  | .gt, .int a, .int b => Q (.bool (decide (b < a))) H
  | .ge, .int a, .int b => Q (.bool (decide (b ≤ a))) H
  | .eq, .int a, .int b => Q (.bool (decide (a = b))) H
  | .ne, .int a, .int b => Q (.bool (!decide (a = b))) H
  | .eq, x, y => eqWp x y H fun b => Q (.bool b) H
  | .ne, x, y => eqWp x y H fun b => Q (.bool (!b)) H
  | .is, x, .none => Q (.bool (match x with | .none => true | _ => false)) H
  | .isin, x, .lst n => ∃ da ds, datOf H 3 x = some da ∧ datOf H 4 (.lst n) = some (.list ds) ∧ (∀ y ∈ ds, SeqAt.noMix y da = true) ∧ Q (.bool (ds.any fun d => PyData.eqv d da)) H
  | .notin, x, .lst n => ∃ da ds, datOf H 3 x = some da ∧ datOf H 4 (.lst n) = some (.list ds) ∧ (∀ y ∈ ds, SeqAt.noMix y da = true) ∧ Q (.bool (!ds.any fun d => PyData.eqv d da)) H
  | _, _, _ => False

noncomputable def biWp (b : Bi) (vs : List V) (H : Hp) (Q : V → Hp → Prop) : Prop :=
  match b, vs with
  | .abs, [.int a] => Q (.int (if a < 0 then -a else a)) H
  | .len, [x] => ifSome (items H x) fun xs => Q (.int xs.length) H
  | .int, [.bool b] => Q (.int (if b then 1 else 0)) H
  | .list, [x] => ifSome (items H x) fun xs => Q (.lst H.length) (H ++ [xs])
  | .tuple, [x] => ifSome (items H x) fun xs => Q (.tup xs) H
  | .listrev, [x] => ∃ xs, items H x = some xs ∧ Q (.lst H.length) (H ++ [xs.reverse])
  | .min, [.int a, .int b] => Q (.int (if b < a then b else a)) H
  | _, _ => False

/-- the class table: subclass relation by numbers -/
noncomputable def isTy (sub : Nat → Nat → Bool) (v : V) (t : Ty) : Option Bool :=
  match v, t with
  | .exc c, .cls k => some (sub c k)
  | .exc _, _ => none
  | .fn _, _ => none
  | _, .cls _ => none
  | .int _, .int => some true
  | .bool _, .int => some true
  | .bool _, .bool => some true
  | .tup _, .tuple => some true
  | .lst _, .list => some true
  | _, _ => some false

noncomputable def idxWp (x y : V) (H : Hp) (Q : V → Hp → Prop) : Prop :=
  match y with
  | .int k => ifSome (items H x) fun xs => ifSome (place xs.length k) fun i => ifSome xs[i]? fun v => Q v H
  | _ => False

noncomputable def cutAt (n : Nat) (lo hi : Option V) : Option (Nat × Nat) :=
  match lo, hi with
  | some (.int a), some (.int b) => some (clampAt n a, clampAt n b)
  | none, some (.int b) => some (0, clampAt n b)
  | some (.int a), none => some (clampAt n a, n)
  | none, none => some (0, n)
  | _, _ => none

noncomputable def slcWp (x : V) (lo hi : Option V) (H : Hp) (Q : V → Hp → Prop) : Prop :=
  match x with
  | .tup xs => (∃ a, lo = some (.int a) ∧ hi = none ∧ 1 ≤ a ∧ a ≤ xs.length ∧ Q (.tup (xs.drop a.toNat)) H) ∨ (lo = none ∧ hi = some (.int (-1)) ∧ xs ≠ [] ∧ Q (.tup xs.dropLast) H)
  | .lst n => ifSome H[n]? fun xs => ifSome (cutAt xs.length lo hi) fun p => Q (.lst H.length) (H ++ [cut xs p.1 p.2])
  | _ => False

/-- ints of a range -/
noncomputable def rangeL (a b c : Int) : List Int := (List.range (Builtin.Range.rangeSize a b c).toNat).map fun (i : Nat) => a + c * (i : Int)
noncomputable def smallI (a : Int) : Prop := -(2 ^ 40) < a ∧ a < 2 ^ 40
noncomputable def rngOf : List V → Option (Int × Int × Int)
  | [.int b] => some (0, b, 1)
  | [.int a, .int b] => some (a, b, 1)
  | [.int a, .int b, .int c] => some (a, b, c)
  | _ => none
noncomputable def rngWp (vs : List V) (H : Hp) (Q : List V → Option Nat → Hp → Prop) : Prop :=
  ∃ a b c, rngOf vs = some (a, b, c) ∧ smallI a ∧ smallI b ∧ (c = 1 ∨ c = -1 ∨ c = 2) ∧ Q ((rangeL a b c).map V.int) none H

/-- the list that a loop reads -/
noncomputable def srcOf : V → Option Nat
  | .lst n => some n
  | _ => none

noncomputable def compGo (step : V → Hp → (Option V → Hp → Prop) → Prop) : List V → Hp → (List V → Hp → Prop) → Prop
  | [], H, Q => Q [] H
  | x :: xs, H, Q => step x H fun o H1 => compGo step xs H1 fun ys H2 => Q (match o with | some y => y :: ys | none => ys) H2

noncomputable def bindT (tg : Nat) (x : V) : Option Loc :=
  match tg, x with
  | 1, x => some [some x]
  | 2, .tup [a, b] => some [some a, some b]
  | _, _ => none

section
variable (sub : Nat → Nat → Bool) (Φ : Call)
mutual
noncomputable def wpE : PE → Loc → Hp → (V → Hp → Prop) → Prop
  | .cint i, _, H, Q => Q (.int i) H
  | .cbool b, _, H, Q => Q (.bool b) H
  | .cstr s, _, H, Q => Q (.str s) H
  | .cnone, _, H, Q => Q .none H
  | .var i, ρ, H, Q => ifSome (lget ρ i) fun v => Q v H
  | .fnv k, _, H, Q => Q (.fn k) H
  | .glob _ a b, _, H, Q => Q (.tup [.int a, .int b]) H
  | .bin op a b, ρ, H, Q => wpE a ρ H fun x H1 => wpE b ρ H1 fun y H2 => binWp op x y H2 Q
  | .neg a, ρ, H, Q => wpE a ρ H fun x H1 => match x with | .int i => Q (.int (-i)) H1 | _ => False
  | .nt a, ρ, H, Q => wpE a ρ H fun x H1 => ifSome (truthV H1 x) fun t => Q (.bool (!t)) H1
  | .cmp op a b, ρ, H, Q => wpE a ρ H fun x H1 => wpE b ρ H1 fun y H2 => cmpWp op x y H2 Q
  | .and es, ρ, H, Q => wpAll true es ρ H Q
  | .or es, ρ, H, Q => wpAll false es ρ H Q
  | .call f es, ρ, H, Q => wpEs es ρ H fun vs H1 => Φ f vs H1 Q fun _ _ => False
  | .callv _ _, _, _, _ => False
  | .bi b es, ρ, H, Q => wpEs es ρ H fun vs H1 => biWp b vs H1 Q
  | .isi a ts, ρ, H, Q => wpE a ρ H fun x H1 => ifSome (ts.mapM (isTy sub x)) fun bs => Q (.bool (bs.any id)) H1
  | .idx a b, ρ, H, Q => wpE a ρ H fun x H1 => wpE b ρ H1 fun y H2 => idxWp x y H2 Q
  | .slc a lo hi, ρ, H, Q => wpE a ρ H fun x H1 => wpO lo ρ H1 fun l H2 => wpO hi ρ H2 fun h H3 => slcWp x l h H3 Q
  | .tup es, ρ, H, Q => wpEs es ρ H fun vs H1 => Q (.tup vs) H1
  | .lst es, ρ, H, Q => wpEs es ρ H fun vs H1 => Q (.lst H1.length) (H1 ++ [vs])
  | .comp elt tg caps it cond, ρ, H, Q => wpI it ρ H fun xs _ H1 => xs.length ≤ lim ∧ compGo (fun x H2 k => ifSome (bindT tg x) fun ρt =>
      wpO cond (ρt ++ caps.map (lget ρ)) H2 fun c H3 => ifSome (match c with | some c => truthV H3 c | none => some true) fun t =>
        if t then wpE elt (ρt ++ caps.map (lget ρ)) H3 fun y H4 => k (some y) H4 else k none H3) xs H1 fun ys H5 => Q (.lst H5.length) (H5 ++ [ys])
noncomputable def wpEs : PEs → Loc → Hp → (List V → Hp → Prop) → Prop
  | .nil, _, H, Q => Q [] H
  | .cons e r, ρ, H, Q => wpE e ρ H fun v H1 => wpEs r ρ H1 fun vs H2 => Q (v :: vs) H2
noncomputable def wpAll (b : Bool) : PEs → Loc → Hp → (V → Hp → Prop) → Prop
  | .nil, _, _, _ => False
  | .cons e .nil, ρ, H, Q => wpE e ρ H Q
  | .cons e r, ρ, H, Q => wpE e ρ H fun v H1 => ifSome (truthV H1 v) fun t => if t = b then wpAll b r ρ H1 Q else Q v H1
noncomputable def wpO : PO → Loc → Hp → (Option V → Hp → Prop) → Prop
  | .no, _, H, Q => Q none H
  | .some e, ρ, H, Q => wpE e ρ H fun v H1 => Q (some v) H1
noncomputable def wpI : PI → Loc → Hp → (List V → Option Nat → Hp → Prop) → Prop
  | .seq e, ρ, H, Q => wpE e ρ H fun v H1 => ifSome (items H1 v) fun xs => Q xs (srcOf v) H1
  | .rev e, ρ, H, Q => wpE e ρ H fun v H1 => ifSome (items H1 v) fun xs => Q xs.reverse (srcOf v) H1
  | .rng es, ρ, H, Q => wpEs es ρ H fun vs H1 => rngWp vs H1 Q
end

noncomputable def forGo (body : Loc → Hp → (Loc → Hp → Prop) → Prop) (i : Nat) : List V → Loc → Hp → (Loc → Hp → Prop) → Prop
  | [], ρ, H, N => N ρ H
  | x :: xs, ρ, H, N => body (lset ρ i x) H fun ρ' H' => forGo body i xs ρ' H' N

noncomputable def listAt (W : Nat → Prop) (ρ : Loc) (H : Hp) (i : Nat) (Q : Nat → List V → Prop) : Prop :=
  ifLst (lget ρ i) fun n => W n ∧ ifSome H[n]? fun xs => Q n xs

/-- W: the lists that may be written -/
noncomputable def wpS : (Nat → Prop) → PS → Loc → Hp → (Loc → Hp → Prop) → (V → Hp → Prop) → (Nat → Hp → Prop) → Prop
  | _, .skip, ρ, H, N, _, _ => N ρ H
  | W, .seq a b, ρ, H, N, R, X => wpS W a ρ H (fun ρ1 H1 => wpS W b ρ1 H1 N R X) R X
  | _, .assign i e, ρ, H, N, _, _ => wpE sub Φ e ρ H fun v H1 => N (lset ρ i v) H1
  | _, .unpack is e, ρ, H, N, _, _ => wpE sub Φ e ρ H fun v H1 => ifTup v fun vs => vs.length = is.length ∧ N (lsets ρ is vs) H1
  | W, .setidx i k e, ρ, H, N, _, _ => wpE sub Φ e ρ H fun v H1 => ifLst (lget ρ i) fun n => W n ∧ wpE sub Φ k ρ H1 fun kv H2 => ifInt kv fun j => ifSome H2[n]? fun xs =>
      ifSome (place xs.length j) fun p => N ρ (H2.set n (xs.set p v))
  | W, .app i e, ρ, H, N, _, _ => ifLst (lget ρ i) fun n => W n ∧ wpE sub Φ e ρ H fun v H1 => ifSome H1[n]? fun xs => xs.length < lim ∧ N ρ (H1.set n (xs ++ [v]))
  | W, .pop i, ρ, H, N, _, _ => listAt W ρ H i fun n xs => ∃ ys k, xs = ys ++ [.int k] ∧ N ρ (H.set n ys)
  | W, .rev i, ρ, H, N, _, _ => listAt W ρ H i fun n xs => N ρ (H.set n xs.reverse)
  | _, .ret e, ρ, H, _, R, _ => wpE sub Φ e ρ H R
  | W, .ite c a b, ρ, H, N, R, X => wpE sub Φ c ρ H fun v H1 => ifSome (truthV H1 v) fun t => if t then wpS W a ρ H1 N R X else wpS W b ρ H1 N R X
  | W, .whl c b, ρ, H, N, R, _ => ∃ (I : Loc → Hp → Prop) (μ : Loc → Hp → Nat), I ρ H ∧ ∀ ρ1 H1, I ρ1 H1 → wpE sub Φ c ρ1 H1 fun v H2 => ifSome (truthV H2 v) fun t =>
      if t then wpS W b ρ1 H2 (fun ρ3 H3 => I ρ3 H3 ∧ μ ρ3 H3 < μ ρ1 H1) R (fun _ _ => False) else N ρ1 H2
  | W, .forr i it b, ρ, H, N, R, _ => wpI sub Φ it ρ H fun xs src H1 => forGo (fun ρ2 H2 k => wpS (fun m => W m ∧ some m ≠ src) b ρ2 H2 k R fun _ _ => False) i xs ρ H1 N
  | _, .raise k, _, H, _, _, X => X k H
  | _, .opaq, _, _, _, _, _ => False
  | _, .rett f es, ρ, H, _, R, _ => wpEs sub Φ es ρ H fun vs H1 => Φ (f + 1000) vs H1 R fun _ _ => False
  | _, .asst i f es, ρ, H, N, _, _ => wpEs sub Φ es ρ H fun vs H1 => Φ (f + 1000) vs H1 (fun v H2 => N (lset ρ i v) H2) fun _ _ => False
  | W, .itet a b f es x _ t, ρ, H, N, R, X => wpE sub Φ a ρ H fun v H1 => ifSome (truthV H1 v) fun t1 => t1 = false ∧ wpE sub Φ b ρ H1 fun v H2 => ifSome (truthV H2 v) fun t2 => t2 = false ∧ wpEs sub Φ es ρ H2 fun vs H3 => Φ (f + 1000) vs H3
      (fun v H4 => ifSome (lget ρ x) fun y => cmpWp .ne v y H4 fun r H5 => ifSome (truthV H5 r) fun t3 => t3 = false ∧ wpS W t ρ H5 N R X) fun _ _ => False
  | W, .tryc x f es k e h, ρ, H, N, R, X => wpEs sub Φ es ρ H fun vs H1 => Φ f vs H1
      (fun v H2 => N (match x with | some i => lset ρ i v | none => ρ) H2)
      (fun c H2 => sub c k = true ∧ wpS W h (lset ρ e (.exc c)) H2 (fun ρ3 H3 => N (lset ρ3 e .none) H3) R X)
end

section
set_option autoImplicit true
set_option relaxedAutoImplicit true
variable {sub : Nat → Nat → Bool} {Φ : Call}
theorem qE1 : wpE sub Φ (.cint i) z1 H Q = (Q (.int i) H) := rfl
theorem qE2 : wpE sub Φ (.cbool b) z1 H Q = (Q (.bool b) H) := rfl
theorem qE3 : wpE sub Φ (.cstr s) z1 H Q = (Q (.str s) H) := rfl
theorem qE4 : wpE sub Φ (.cnone) z1 H Q = (Q .none H) := rfl
theorem qE5 : wpE sub Φ (.var i) ρ H Q = (ifSome (lget ρ i) fun v => Q v H) := rfl
theorem qE6 : wpE sub Φ (.fnv k) z1 H Q = (Q (.fn k) H) := rfl
theorem qE7 : wpE sub Φ (.glob y1 a b) z1 H Q = (Q (.tup [.int a, .int b]) H) := rfl
theorem qE8 : wpE sub Φ (.bin op a b) ρ H Q = (wpE sub Φ a ρ H fun x H1 => wpE sub Φ b ρ H1 fun y H2 => binWp op x y H2 Q) := rfl
theorem qE9 : wpE sub Φ (.neg a) ρ H Q = (wpE sub Φ a ρ H fun x H1 => match x with | .int i => Q (.int (-i)) H1 | _ => False) := rfl
theorem qE10 : wpE sub Φ (.nt a) ρ H Q = (wpE sub Φ a ρ H fun x H1 => ifSome (truthV H1 x) fun t => Q (.bool (!t)) H1) := rfl
theorem qE11 : wpE sub Φ (.cmp op a b) ρ H Q = (wpE sub Φ a ρ H fun x H1 => wpE sub Φ b ρ H1 fun y H2 => cmpWp op x y H2 Q) := rfl
theorem qE12 : wpE sub Φ (.and es) ρ H Q = (wpAll sub Φ true es ρ H Q) := rfl
theorem qE13 : wpE sub Φ (.or es) ρ H Q = (wpAll sub Φ false es ρ H Q) := rfl
theorem qE14 : wpE sub Φ (.call f es) ρ H Q = (wpEs sub Φ es ρ H fun vs H1 => Φ f vs H1 Q fun _ _ => False) := rfl
theorem qE15 : wpE sub Φ (.callv y1 y2) z1 z2 z3 = (False) := rfl
theorem qE16 : wpE sub Φ (.bi b es) ρ H Q = (wpEs sub Φ es ρ H fun vs H1 => biWp b vs H1 Q) := rfl
theorem qE17 : wpE sub Φ (.isi a ts) ρ H Q = (wpE sub Φ a ρ H fun x H1 => ifSome (ts.mapM (isTy sub x)) fun bs => Q (.bool (bs.any id)) H1) := rfl
theorem qE18 : wpE sub Φ (.idx a b) ρ H Q = (wpE sub Φ a ρ H fun x H1 => wpE sub Φ b ρ H1 fun y H2 => idxWp x y H2 Q) := rfl
theorem qE19 : wpE sub Φ (.slc a lo hi) ρ H Q = (wpE sub Φ a ρ H fun x H1 => wpO sub Φ lo ρ H1 fun l H2 => wpO sub Φ hi ρ H2 fun h H3 => slcWp x l h H3 Q) := rfl
theorem qE20 : wpE sub Φ (.tup es) ρ H Q = (wpEs sub Φ es ρ H fun vs H1 => Q (.tup vs) H1) := rfl
theorem qE21 : wpE sub Φ (.lst es) ρ H Q = (wpEs sub Φ es ρ H fun vs H1 => Q (.lst H1.length) (H1 ++ [vs])) := rfl
theorem qE22 : wpE sub Φ (.comp elt tg caps it cnd) ρ H Q = (wpI sub Φ it ρ H fun xs _ H1 => xs.length ≤ lim ∧ compGo (fun x H2 k => ifSome (bindT tg x) fun ρt => wpO sub Φ cnd (ρt ++ caps.map (lget ρ)) H2 fun c H3 => ifSome (match c with | some c => truthV H3 c | none => some true) fun t => if t then wpE sub Φ elt (ρt ++ caps.map (lget ρ)) H3 fun y H4 => k (some y) H4 else k none H3) xs H1 fun ys H5 => Q (.lst H5.length) (H5 ++ [ys])) := rfl
theorem qEs1 : wpEs sub Φ (.nil) z1 H Q = (Q [] H) := rfl
theorem qEs2 : wpEs sub Φ (.cons e r) ρ H Q = (wpE sub Φ e ρ H fun v H1 => wpEs sub Φ r ρ H1 fun vs H2 => Q (v :: vs) H2) := rfl
theorem qO1 : wpO sub Φ (.no) z1 H Q = (Q none H) := rfl
theorem qO2 : wpO sub Φ (.some e) ρ H Q = (wpE sub Φ e ρ H fun v H1 => Q (some v) H1) := rfl
theorem qI1 : wpI sub Φ (.seq e) ρ H Q = (wpE sub Φ e ρ H fun v H1 => ifSome (items H1 v) fun xs => Q xs (srcOf v) H1) := rfl
theorem qI2 : wpI sub Φ (.rev e) ρ H Q = (wpE sub Φ e ρ H fun v H1 => ifSome (items H1 v) fun xs => Q xs.reverse (srcOf v) H1) := rfl
theorem qI3 : wpI sub Φ (.rng es) ρ H Q = (wpEs sub Φ es ρ H fun vs H1 => rngWp vs H1 Q) := rfl
theorem qS1 : wpS sub Φ z0 (.skip) ρ H N z5 z6 = (N ρ H) := rfl
theorem qS2 : wpS sub Φ W (.seq a b) ρ H N R X = (wpS sub Φ W a ρ H (fun ρ1 H1 => wpS sub Φ W b ρ1 H1 N R X) R X) := rfl
theorem qS3 : wpS sub Φ z0 (.assign i e) ρ H N z5 z6 = (wpE sub Φ e ρ H fun v H1 => N (lset ρ i v) H1) := rfl
theorem qS4 : wpS sub Φ z0 (.unpack is e) ρ H N z5 z6 = (wpE sub Φ e ρ H fun v H1 => ifTup v fun vs => vs.length = is.length ∧ N (lsets ρ is vs) H1) := rfl
theorem qS5 : wpS sub Φ W (.setidx i k e) ρ H N z5 z6 = (wpE sub Φ e ρ H fun v H1 => ifLst (lget ρ i) fun n => W n ∧ wpE sub Φ k ρ H1 fun kv H2 => ifInt kv fun j => ifSome H2[n]? fun xs => ifSome (place xs.length j) fun p => N ρ (H2.set n (xs.set p v))) := rfl
theorem qS6 : wpS sub Φ W (.app i e) ρ H N z5 z6 = (ifLst (lget ρ i) fun n => W n ∧ wpE sub Φ e ρ H fun v H1 => ifSome H1[n]? fun xs => xs.length < lim ∧ N ρ (H1.set n (xs ++ [v]))) := rfl
theorem qS7 : wpS sub Φ W (.pop i) ρ H N z5 z6 = (listAt W ρ H i fun n xs => ∃ ys k, xs = ys ++ [.int k] ∧ N ρ (H.set n ys)) := rfl
theorem qS8 : wpS sub Φ W (.rev i) ρ H N z5 z6 = (listAt W ρ H i fun n xs => N ρ (H.set n xs.reverse)) := rfl
theorem qS9 : wpS sub Φ z0 (.ret e) ρ H z4 R z6 = (wpE sub Φ e ρ H R) := rfl
theorem qS10 : wpS sub Φ W (.ite c a b) ρ H N R X = (wpE sub Φ c ρ H fun v H1 => ifSome (truthV H1 v) fun t => if t then wpS sub Φ W a ρ H1 N R X else wpS sub Φ W b ρ H1 N R X) := rfl
theorem qS11 : wpS sub Φ W (.whl c b) ρ H N R z6 = (∃ (I : Loc → Hp → Prop) (μ : Loc → Hp → Nat), I ρ H ∧ ∀ ρ1 H1, I ρ1 H1 → wpE sub Φ c ρ1 H1 fun v H2 => ifSome (truthV H2 v) fun t => if t then wpS sub Φ W b ρ1 H2 (fun ρ3 H3 => I ρ3 H3 ∧ μ ρ3 H3 < μ ρ1 H1) R (fun _ _ => False) else N ρ1 H2) := rfl
theorem qS12 : wpS sub Φ W (.forr i it b) ρ H N R z6 = (wpI sub Φ it ρ H fun xs src H1 => forGo (fun ρ2 H2 k => wpS sub Φ (fun m => W m ∧ some m ≠ src) b ρ2 H2 k R fun _ _ => False) i xs ρ H1 N) := rfl
theorem qS13 : wpS sub Φ z0 (.raise k) z2 H z4 z5 X = (X k H) := rfl
theorem qS14 : wpS sub Φ z0 (.opaq) z2 z3 z4 z5 z6 = (False) := rfl
theorem qS15 : wpS sub Φ z0 (.rett f es) ρ H z4 R z6 = (wpEs sub Φ es ρ H fun vs H1 => Φ (f + 1000) vs H1 R fun _ _ => False) := rfl
theorem qS16 : wpS sub Φ z0 (.asst i f es) ρ H N z5 z6 = (wpEs sub Φ es ρ H fun vs H1 => Φ (f + 1000) vs H1 (fun v H2 => N (lset ρ i v) H2) fun _ _ => False) := rfl
theorem qS17 : wpS sub Φ W (.itet a b f es x y1 t) ρ H N R X = (wpE sub Φ a ρ H fun v H1 => ifSome (truthV H1 v) fun t1 => t1 = false ∧ wpE sub Φ b ρ H1 fun v H2 => ifSome (truthV H2 v) fun t2 => t2 = false ∧ wpEs sub Φ es ρ H2 fun vs H3 => Φ (f + 1000) vs H3 (fun v H4 => ifSome (lget ρ x) fun y => cmpWp .ne v y H4 fun r H5 => ifSome (truthV H5 r) fun t3 => t3 = false ∧ wpS sub Φ W t ρ H5 N R X) fun _ _ => False) := rfl
theorem qS18 : wpS sub Φ W (.tryc x f es k e h) ρ H N R X = (wpEs sub Φ es ρ H fun vs H1 => Φ f vs H1 (fun v H2 => N (match x with | some i => lset ρ i v | none => ρ) H2) (fun c H2 => sub c k = true ∧ wpS sub Φ W h (lset ρ e (.exc c)) H2 (fun ρ3 H3 => N (lset ρ3 e .none) H3) R X)) := rfl
end

structure Fn where
  np : Nat
  nv : Nat
  body : PS

noncomputable def startLoc (np nv : Nat) (vs : List V) : Loc := vs.map some ++ List.replicate (nv - np) none

noncomputable def callN (sub : Nat → Nat → Bool) (P : List Fn) : Nat → Call
  | 0 => fun _ _ _ _ _ => False
  | n + 1 => fun f vs H Q X => ∃ d, P[f]? = some d ∧ vs.length = d.np ∧ wpS sub (callN sub P n) (fun m => H.length ≤ m) d.body (startLoc d.np d.nv vs) H (fun _ H' => Q .none H') Q X

/-- the law's own frame: calls, and calls that may catch (from 1000 on) -/
noncomputable def topC (Ψ : Nat → List V → Hp → (V → Hp → Prop) → Prop) (c : Call) : Call := fun k vs H Q Y => (k < 1000 ∧ c k vs H Q Y) ∨ (1000 ≤ k ∧ Ψ (k - 1000) vs H Q)
theorem topC_c {Ψ : Nat → List V → Hp → (V → Hp → Prop) → Prop} {c : Call} {k : Nat} {vs : List V} {H : Hp} {Q : V → Hp → Prop} {Y : Nat → Hp → Prop} (hk : k < 1000) (h : c k vs H Q Y) : topC Ψ c k vs H Q Y := .inl ⟨hk, h⟩
theorem topC_t {Ψ : Nat → List V → Hp → (V → Hp → Prop) → Prop} {c : Call} {k : Nat} {vs : List V} {H : Hp} {Q : V → Hp → Prop} {Y : Nat → Hp → Prop} (h : Ψ k vs H Q) : topC Ψ c (k + 1000) vs H Q Y := .inr ⟨Nat.le_add_left _ _, by rw [Nat.add_sub_cancel]; exact h⟩

end Mine

set_option autoImplicit false
namespace Mine
open PySem

/-- what the matcher knows of the text: the functions' names, the classes' names -/
structure GC where
  fns : List Str
  cls : List Str
  globs : List (Str × Int × Int)
/-- and of the scope -/
structure MC where
  g : GC
  scope : Scope
  names : List Str

noncomputable def MC.isGlob (c : MC) (x : Str) : Bool := decide (c.scope.names.lookup x = some NameKind.globalImplicit) && !(x == Str.ofString "__debug__")
noncomputable def MC.isVar (c : MC) (i : Nat) (x : Str) : Bool := decide (c.names[i]? = some x) && !(x == Str.ofString "__debug__") && !(x == Str.ofString "__classdict__") &&
  (decide (c.scope.names.lookup x = some NameKind.local) || decide (c.scope.names.lookup x = some NameKind.cell) || decide (c.scope.names.lookup x = some NameKind.free))
noncomputable def MC.isNm (c : MC) (e : Expr) (x : Str) : Bool := match e with
  | .Name y _ => y == x && c.isGlob y
  | _ => false

noncomputable def opOf : BOp → Operator
  | .add => .Add | .sub => .Sub | .mul => .Mult | .fdiv => .FloorDiv | .mod => .Mod | .pow => .Pow
noncomputable def cmpOf : COp → CmpOp
  | .lt => .Lt | .le => .LtE | .gt => .Gt | .ge => .GtE | .eq => .Eq | .ne => .NotEq | .isin => .In | .notin => .NotIn | .is => .Is
noncomputable def biName : Bi → Str
  | .abs => "abs" | .len => "len" | .int => "int" | .list => "list" | .tuple => "tuple" | .min => "min" | .listrev => "list"

noncomputable def Bi.isRev : Bi → Bool
  | .listrev => true
  | _ => false
noncomputable def Ty.isCls : Ty → Bool
  | .cls _ => true
  | _ => false
noncomputable def notCompM (e : Expr) : Bool := match e with | .ListComp .. | .SetComp .. | .DictComp .. => false | _ => true
noncomputable def notStarM (e : Expr) : Bool := match e with | .Starred .. => false | _ => true
noncomputable def MC.isTyp (c : MC) (t : Ty) (e : Expr) : Bool := match t with
  | .int => c.isNm e "int"
  | .bool => c.isNm e "bool"
  | .tuple => c.isNm e "tuple"
  | .list => c.isNm e "list"
  | .cls k => match c.g.cls[k]? with | some x => c.isNm e x | none => false
noncomputable def MC.areTyps (c : MC) : List Ty → List Expr → Bool
  | [], [] => true
  | t :: ts, e :: es => c.isTyp t e && c.areTyps ts es
  | _, _ => false

/-- the comprehension's scope: the targets local, the captured names free, all else global -/
noncomputable def compScopeOk (sc : Scope) (ts cs : List Str) : Bool :=
  decide (sc.kind = ScopeKind.function) && sc.names.all (fun p => match p.2 with
    | .local => (p.1 == Str.ofString ".0" || ts.contains p.1) && decide (sc.names.lookup p.1 = some NameKind.local)
    | .free => cs.contains p.1
    | .globalImplicit => true
    | _ => false) && ts.all (fun n => decide (sc.names.lookup n = some NameKind.local)) && cs.all (fun n => decide (sc.names.lookup n = some NameKind.free))

noncomputable def capNames (c : MC) (caps : List Nat) : Option (List Str) := caps.mapM fun i => c.names[i]?

noncomputable def MC.varNm (c : MC) (i : Nat) (e : Expr) : Bool := match e with
  | .Name x _ => c.isVar i x
  | _ => false
noncomputable def MC.fnNm (c : MC) (k : Nat) (e : Expr) : Bool := match c.g.fns[k]? with
  | some x => c.isNm e x
  | none => false
noncomputable def MC.clsNm (c : MC) (k : Nat) (e : Expr) : Bool := match c.g.cls[k]? with
  | some x => c.isNm e x
  | none => false
/-- the comprehension's one target -/
noncomputable def tgtName (e : Expr) : Option Str := match e with
  | .Name x _ => some x
  | _ => none
noncomputable def isOne {α : Type} (l : List α) : Option α := match l with
  | [x] => some x
  | _ => none
noncomputable def MC.isiOk (c : MC) (ts : List Ty) (e : Expr) : Bool := match e with
  | .Tuple es _ _ => decide (2 ≤ ts.length) && ts.all Ty.isCls && c.areTyps ts es
  | e => c.areTyps ts [e]
noncomputable def notSlice (e : Expr) : Bool := match e with | .Slice .. => false | _ => true
noncomputable def notSetM (e : Expr) : Bool := match e with | .Set .. => false | _ => true

mutual
noncomputable def matchE (c : MC) : PE → Expr → Bool
  | .cint i, e => match e with | .Constant k _ _ => (match k with | .int j => decide (i = j) | _ => false) | _ => false
  | .cbool b, e => match e with | .Constant k _ _ => (match k with | .bool d => decide (b = d) | _ => false) | _ => false
  | .cstr s, e => match e with | .Constant k _ _ => (match k with | .str t => decide (s = t) | _ => false) | _ => false
  | .cnone, e => match e with | .Constant k _ _ => (match k with | .none => true | _ => false) | _ => false
  | .var i, e => c.varNm i e
  | .fnv k, e => c.fnNm k e
  | .glob x a b, e => c.g.globs.contains (x, a, b) && c.isNm e x
  | .bin op a b, e => match e with | .BinOp l o r _ => decide (o = opOf op) && matchE c a l && matchE c b r | _ => false
  | .neg a, e => match e with | .UnaryOp o x _ => decide (o = .USub) && matchE c a x | _ => false
  | .nt a, e => match e with | .UnaryOp o x _ => decide (o = .Not) && matchE c a x | _ => false
  | .cmp op a b, e => match e with | .Compare l os rs _ => (match isOne os, isOne rs with | some o, some r => decide (o = cmpOf op) && !behindInMarks o r && matchE c a l && matchE c b r | _, _ => false) | _ => false
  | .and es, e => match e with | .BoolOp o vs _ => decide (o = .And) && matchEs c es vs | _ => false
  | .or es, e => match e with | .BoolOp o vs _ => decide (o = .Or) && matchEs c es vs | _ => false
  | .call f es, e => match e with | .Call g as kw _ => kw.isEmpty && c.fnNm f g && !as.isEmpty && matchEs c es as | _ => false
  | .callv _ _, _ => false
  | .bi b es, e => match e with | .Call f as kw _ => !b.isRev && kw.isEmpty && c.isNm f (biName b) && !as.isEmpty && matchEs c es as | _ => false
  | .isi a ts, e => match e with
    | .Call f as kw _ => (match as with
      | x :: ys => (match isOne ys with | some t => kw.isEmpty && c.isNm f "isinstance" && matchE c a x && notStarM x && c.isiOk ts t | none => false)
      | [] => false)
    | _ => false
  | .idx a b, e => match e with | .Subscript x i _ => matchE c a x && matchE c b i && notSlice i | _ => false
  | .slc a lo hi, e => match e with | .Subscript x i _ => (match i with | .Slice l h st _ => st.isNone && matchE c a x && matchO c lo l && matchO c hi h | _ => false) | _ => false
  | .tup es, e => match e with | .Tuple vs _ _ => decide (vs.length ≤ 1000) && matchEs c es vs | _ => false
  | .lst es, e => match e with | .List vs _ => decide (vs.length ≤ 1000) && matchEs c es vs | _ => false
  | .comp elt tg caps it cond, e => match e with
    | .ListComp x gs sc _ => (match isOne gs with
      | some gn => (match tgtName gn.target, capNames c caps with
        | some tx, some cs => decide (gn.is_async = 0) && decide (tg = 1) && cs.all (fun n => decide (c.scope.names.lookup n = some NameKind.cell) || decide (c.scope.names.lookup n = some NameKind.free)) && compScopeOk sc [tx] cs &&
          matchI c it gn.iter && matchE ⟨c.g, sc, [tx] ++ cs⟩ elt x && matchIfs ⟨c.g, sc, [tx] ++ cs⟩ cond gn.ifs
        | _, _ => false)
      | none => false)
    | _ => false
noncomputable def matchEs (c : MC) : PEs → List Expr → Bool
  | .nil, es => es.isEmpty
  | .cons e r, es => match es with | x :: xs => matchE c e x && notStarM x && matchEs c r xs | [] => false
noncomputable def matchO (c : MC) : PO → Option Expr → Bool
  | .no, o => o.isNone
  | .some e, o => match o with | some x => matchE c e x | none => false
noncomputable def matchIfs (c : MC) : PO → List Expr → Bool
  | .no, o => o.isEmpty
  | .some e, o => match isOne o with | some x => matchE c e x | none => false
noncomputable def matchI (c : MC) : PI → Expr → Bool
  | .seq e, x => matchE c e x && notSetM x
  | .rev e, x => match x with | .Call f as kw _ => (match isOne as with | some y => kw.isEmpty && c.isNm f "reversed" && matchE c e y && notStarM y | none => false) | _ => false
  | .rng es, x => match x with | .Call f as kw _ => kw.isEmpty && c.isNm f "range" && !as.isEmpty && matchEs c es as | _ => false
end

/-- x.m(..) -/
noncomputable def MC.isMeth (c : MC) (i : Nat) (m : Str) (e : Expr) (cp : Pos) : Bool := match e with
  | .Attribute y a ap => c.varNm i y && a == m && decide (ap.endLine = cp.line)
  | _ => false

/-- a or b or l != r -/
noncomputable def or3 (e : Expr) : Option (Expr × Expr × Expr × Expr) := match e with
  | .BoolOp .Or [v1, v2, .Compare l [.NotEq] [r] _] _ => some (v1, v2, l, r)
  | _ => none
noncomputable def isStrC (e : Expr) : Bool := match e with | .Constant k _ _ => (match k with | .str _ => true | _ => false) | _ => false
mutual
noncomputable def matchS (c : MC) : PS → Stmt → Bool
  | .skip, _ => false
  | .seq _ _, _ => false
  | .assign i e, s => match s with | .Assign ts v _ => (match isOne ts with | some t => c.varNm i t && matchE c e v && (notCompM v || (match e with | .comp .. => true | _ => false)) | none => false) | _ => false
  | .unpack _ _, _ => false
  | .setidx i k e, s => match s with | .Assign ts v _ => (match isOne ts with | some t => (match t with | .Subscript y j _ => c.varNm i y && matchE c k j && matchE c e v && notCompM v | _ => false) | none => false) | _ => false
  | .app i e, s => match s with | .Expr x _ => (match x with | .Call f as kw cp => (match isOne as with | some v => kw.isEmpty && c.isMeth i (Str.ofString "append") f cp && matchE c e v && notStarM v | none => false) | _ => false) | _ => false
  | .pop _, _ => false
  | .rev _, _ => false
  | .ret e, s => match s with | .Return o _ => (match o with | some v => matchE c e v | none => false) | _ => false
  | .ite t a b, s => match s with | .If v x y _ => matchE c t v && matchB c a x && matchB c b y | _ => false
  | .whl t b, s => match s with | .While v x y _ => y.isEmpty && matchE c t v && matchB c b x | _ => false
  | .forr i it b, s => match s with | .For t v y z _ => z.isEmpty && c.varNm i t && matchI c it v && matchB c b y | _ => false
  | .raise k, s => match s with | .Raise o o2 _ => o2.isNone && (match o with | some x => (match x with | .Call f as kw _ => kw.isEmpty && c.clsNm k f && (match isOne as with | some a => isStrC a | none => false) | _ => false) | none => false) | _ => false
  | .opaq, _ => false
  | .rett _ _, _ => false
  | .asst i f es, s => match s with | .Assign ts v _ => (match isOne ts with | some t => c.varNm i t && matchE c (.call f es) v | none => false) | _ => false
  | .itet a b f es x p q, s => match s with | .If v y z _ => (match or3 v with | some w => matchE c a w.1 && matchE c b w.2.1 && matchE c (.call f es) w.2.2.1 && c.varNm x w.2.2.2 && !behindInMarks .NotEq w.2.2.2 && matchB c p y && matchB c q z | none => false) | _ => false
  | .tryc _ _ _ _ _ _, _ => false
noncomputable def matchB (c : MC) : PS → List Stmt → Bool
  | .skip, b => b.isEmpty
  | .seq a r, b => match b with | s :: ss => matchS c a s && matchB c r ss | [] => false
  | .assign _ _, _ => false
  | .unpack _ _, _ => false
  | .setidx _ _ _, _ => false
  | .app _ _, _ => false
  | .pop _, _ => false
  | .rev _, _ => false
  | .ret _, _ => false
  | .ite _ _ _, _ => false
  | .whl _ _, _ => false
  | .forr _ _ _, _ => false
  | .raise _, _ => false
  | .opaq, _ => true
  | .rett _ _, _ => false
  | .asst _ _ _, _ => false
  | .itet _ _ _ _ _ _ _, _ => false
  | .tryc _ _ _ _ _ _, _ => false
end

end Mine

set_option autoImplicit false
set_option linter.unusedVariables false
namespace Mine
open PySem PyProof.Rows

abbrev KeepsH (h h' : Heap) : Prop := ∀ b o, h.get? b = some o → h'.get? b = some o
theorem KeepsH.trans {h h' h'' : Heap} (a : KeepsH h h') (b : KeepsH h' h'') : KeepsH h h'' := fun x o e => b x o (a x o e)
theorem KeepsH.refl (h : Heap) : KeepsH h h := fun _ _ e => e

/-- what is known of the top's globals: fa: a function's address, ca: a class's address -/
structure GV where
  mg : Str → Option Value
  mb : Str → Option Value
  fa : Nat → Addr
  ca : Nat → Value

mutual
inductive Rep (G : GV) (α : List Addr) (h : Heap) : Value → V → Prop
  | int (i : Int) (t : Tok) : Rep G α h (.int i t) (.int i)
  | bool (b : Bool) : Rep G α h (.bool b) (.bool b)
  | none : Rep G α h .none .none
  | str (s : Str) (t : Tok) : Rep G α h (.str s t) (.str s)
  | tup {a : Addr} {vs : List Value} {xs : List V} : IsTup h a vs.toArray → Reps G α h vs xs → xs.length ≤ lim → Rep G α h (.ref a) (.tup xs)
  | lst {a : Addr} {n : Nat} : α[n]? = some a → Rep G α h (.ref a) (.lst n)
  | fn {a : Addr} {k : Nat} : a = G.fa k → Rep G α h (.ref a) (.fn k)
inductive Reps (G : GV) (α : List Addr) (h : Heap) : List Value → List V → Prop
  | nil : Reps G α h [] []
  | cons {v : Value} {d : V} {vs : List Value} {ds : List V} : Rep G α h v d → Reps G α h vs ds → Reps G α h (v :: vs) (d :: ds)
end

section
variable {G : GV} {α : List Addr} {h : Heap} {u : Value}
noncomputable def RepOut (G : GV) (α : List Addr) (h : Heap) (u : Value) : V → Prop
  | .int i => ∃ t, u = .int i t
  | .bool b => u = .bool b
  | .none => u = .none
  | .str s => ∃ t, u = .str s t
  | .tup xs => ∃ a vs, u = .ref a ∧ IsTup h a (List.toArray vs) ∧ Reps G α h vs xs ∧ xs.length ≤ lim
  | .lst n => ∃ a, u = .ref a ∧ α[n]? = some a
  | .fn k => u = .ref (G.fa k)
  | .exc _ => False
theorem Rep.out {x : V} (r : Rep G α h u x) : RepOut G α h u x := by
  cases r with
  | int i t => exact ⟨t, rfl⟩
  | bool b => exact rfl
  | none => exact rfl
  | str s t => exact ⟨t, rfl⟩
  | tup t r z => exact ⟨_, _, rfl, t, r, z⟩
  | lst e => exact ⟨_, rfl, e⟩
  | fn e => exact congrArg _ e
theorem Rep.int_inv {i : Int} (r : Rep G α h u (.int i)) : ∃ t, u = .int i t := r.out
theorem Rep.bool_inv {b : Bool} (r : Rep G α h u (.bool b)) : u = .bool b := r.out
theorem Rep.none_inv (r : Rep G α h u .none) : u = .none := r.out
theorem Rep.lst_inv {n : Nat} (r : Rep G α h u (.lst n)) : ∃ a, u = .ref a ∧ α[n]? = some a := r.out
noncomputable def RepsOut (G : GV) (α : List Addr) (h : Heap) (vs : List Value) : List V → Prop
  | [] => vs = []
  | d :: ds => ∃ v vs', vs = v :: vs' ∧ Rep G α h v d ∧ Reps G α h vs' ds
theorem Reps.out {vs : List Value} {ds : List V} (r : Reps G α h vs ds) : RepsOut G α h vs ds := by
  cases r with
  | nil => exact rfl
  | cons a b => exact ⟨_, _, rfl, a, b⟩
theorem Reps.one_inv {vs : List Value} {d : V} (r : Reps G α h vs [d]) : ∃ v, vs = [v] ∧ Rep G α h v d := by
  obtain ⟨v, vs', e, a, b⟩ := r.out
  cases b.out
  exact ⟨v, e, a⟩
theorem Reps.two_inv {vs : List Value} {d e : V} (r : Reps G α h vs [d, e]) : ∃ v w, vs = [v, w] ∧ Rep G α h v d ∧ Rep G α h w e := by
  obtain ⟨v, vs', e, a, b⟩ := r.out
  obtain ⟨w, rfl, c⟩ := b.one_inv
  exact ⟨v, w, e, a, c⟩
end

/-- a heap in which every tuple stands as it stood -/
noncomputable def KeepsT (h h' : Heap) : Prop := ∀ a items, IsTup h a items → IsTup h' a items
theorem KeepsT.of {h h' : Heap} (k : KeepsH h h') : KeepsT h h' := fun _ _ x => x.keeps k

mutual
theorem Rep.mono {G : GV} {α α' : List Addr} {h h' : Heap} (ha : ∀ (n : Nat) (a : Addr), α[n]? = some a → α'[n]? = some a) (k : KeepsT h h') :
    ∀ {v : Value} {d : V}, Rep G α h v d → Rep G α' h' v d
  | _, _, .int i t => .int i t
  | _, _, .bool b => .bool b
  | _, _, .none => .none
  | _, _, .str s t => .str s t
  | _, _, .tup t r z => .tup (k _ _ t) (Reps.mono ha k r) z
  | _, _, .lst e => .lst (ha _ _ e)
  | _, _, .fn e => .fn e
theorem Reps.mono {G : GV} {α α' : List Addr} {h h' : Heap} (ha : ∀ (n : Nat) (a : Addr), α[n]? = some a → α'[n]? = some a) (k : KeepsT h h') :
    ∀ {vs : List Value} {ds : List V}, Reps G α h vs ds → Reps G α' h' vs ds
  | _, _, .nil => .nil
  | _, _, .cons r rs => .cons (Rep.mono ha k r) (Reps.mono ha k rs)
end

theorem ext_app {α β : List Addr} (n : Nat) (a : Addr) (e : α[n]? = some a) : (α ++ β)[n]? = some a := by
  have hl : n < α.length := (List.getElem?_eq_some_iff.mp e).1
  rw [List.getElem?_append_left hl]; exact e
theorem Rep.up {G : GV} {α β : List Addr} {h h' : Heap} {v : Value} {d : V} (r : Rep G α h v d) (k : KeepsH h h') : Rep G (α ++ β) h' v d := r.mono ext_app (.of k)
theorem Reps.up {G : GV} {α β : List Addr} {h h' : Heap} {v : List Value} {d : List V} (r : Reps G α h v d) (k : KeepsH h h') : Reps G (α ++ β) h' v d := r.mono ext_app (.of k)

theorem Reps.len {G : GV} {α : List Addr} {h : Heap} : ∀ {vs : List Value} {ds : List V}, Reps G α h vs ds → vs.length = ds.length
  | _, _, .nil => rfl
  | _, _, .cons _ r => by simp [r.len]
theorem Reps.get {G : GV} {α : List Addr} {h : Heap} : ∀ {vs : List Value} {ds : List V}, Reps G α h vs ds → ∀ {n : Nat} {d : V}, ds[n]? = some d → ∃ v, vs[n]? = some v ∧ Rep G α h v d
  | _, _, .nil, n, d, e => by simp at e
  | _, _, .cons r rs, 0, d, e => by simp at e; subst e; exact ⟨_, rfl, r⟩
  | _, _, .cons r rs, n + 1, d, e => by
    simp at e
    obtain ⟨v, a, b⟩ := rs.get e
    exact ⟨v, by simpa using a, b⟩
theorem Reps.get' {G : GV} {α : List Addr} {h : Heap} : ∀ {vs : List Value} {ds : List V}, Reps G α h vs ds → ∀ {n : Nat} {v : Value}, vs[n]? = some v → ∃ d, ds[n]? = some d ∧ Rep G α h v d
  | _, _, .nil, n, d, e => by simp at e
  | _, _, .cons r rs, 0, d, e => by simp at e; subst e; exact ⟨_, rfl, r⟩
  | _, _, .cons r rs, n + 1, d, e => by
    simp at e
    obtain ⟨v, a, b⟩ := rs.get' e
    exact ⟨v, by simpa using a, b⟩
theorem Reps.append {G : GV} {α : List Addr} {h : Heap} : ∀ {vs vs' : List Value} {ds ds' : List V}, Reps G α h vs ds → Reps G α h vs' ds' → Reps G α h (vs ++ vs') (ds ++ ds')
  | _, _, _, _, .nil, r => r
  | _, _, _, _, .cons a b, r => .cons a (b.append r)
theorem Reps.take {G : GV} {α : List Addr} {h : Heap} : ∀ {vs : List Value} {ds : List V} (n : Nat), Reps G α h vs ds → Reps G α h (vs.take n) (ds.take n)
  | _, _, 0, _ => by simpa using Reps.nil
  | _, _, _ + 1, .nil => .nil
  | _, _, n + 1, .cons a b => .cons a (b.take n)
theorem Reps.drop {G : GV} {α : List Addr} {h : Heap} : ∀ {vs : List Value} {ds : List V} (n : Nat), Reps G α h vs ds → Reps G α h (vs.drop n) (ds.drop n)
  | _, _, 0, r => r
  | _, _, _ + 1, .nil => .nil
  | _, _, n + 1, .cons _ b => b.drop n
theorem Reps.reverse {G : GV} {α : List Addr} {h : Heap} : ∀ {vs : List Value} {ds : List V}, Reps G α h vs ds → Reps G α h vs.reverse ds.reverse
  | _, _, .nil => .nil
  | _, _, .cons a b => by rw [List.reverse_cons, List.reverse_cons]; exact b.reverse.append (.cons a .nil)
theorem Reps.set {G : GV} {α : List Addr} {h : Heap} {v : Value} {d : V} (r : Rep G α h v d) : ∀ {vs : List Value} {ds : List V} (n : Nat), Reps G α h vs ds → Reps G α h (vs.set n v) (ds.set n d)
  | _, _, _, .nil => .nil
  | _, _, 0, .cons _ b => .cons r b
  | _, _, n + 1, .cons a b => .cons a (b.set r n)
theorem Reps.dropLast {G : GV} {α : List Addr} {h : Heap} {vs : List Value} {ds : List V} (r : Reps G α h vs ds) : Reps G α h vs.dropLast ds.dropLast := by
  rw [List.dropLast_eq_take, List.dropLast_eq_take, r.len]; exact r.take _
theorem Reps.replicate {G : GV} {α : List Addr} {h : Heap} {v : Value} {d : V} (r : Rep G α h v d) : ∀ n : Nat, Reps G α h (List.replicate n v) (List.replicate n d)
  | 0 => .nil
  | n + 1 => .cons r (Reps.replicate r n)

/-- the mini heap's lists stand in the heap -/
structure HR (G : GV) (α : List Addr) (h : Heap) (H : Hp) : Prop where
  len : α.length = H.length
  nodup : α.Nodup
  pos : 1 ≤ H.length
  lst : ∀ (n : Nat) (a : Addr) (xs : List V), α[n]? = some a → H[n]? = some xs → ∃ vs : List Value, h.IsList a vs.toArray ∧ Reps G α h vs xs ∧ xs.length ≤ lim ∧ (n ≠ 0 → h.PlainList a vs.toArray)

theorem HR.at {G : GV} {α : List Addr} {h : Heap} {H : Hp} (r : HR G α h H) {n : Nat} {a : Addr} (e : α[n]? = some a) : ∃ xs, H[n]? = some xs := by
  have : n < H.length := by rw [← r.len]; exact (List.getElem?_eq_some_iff.mp e).1
  exact ⟨H[n], List.getElem?_eq_getElem this⟩
theorem HR.lt {G : GV} {α : List Addr} {h : Heap} {H : Hp} (r : HR G α h H) {a : Addr} (e : a ∈ α) : a < h.objs.size := by
  obtain ⟨n, hn⟩ := List.mem_iff_getElem?.mp e
  obtain ⟨xs, hx⟩ := r.at hn
  obtain ⟨vs, ⟨o, ho, _⟩, _⟩ := r.lst n a xs hn hx
  exact Heap.lt_size ho

theorem isList_keeps {h h' : Heap} {a : Addr} {items : Array Value} (x : h.IsList a items) (k : KeepsH h h') : h'.IsList a items := let ⟨o, ho, r⟩ := x; ⟨o, k _ _ ho, r⟩
theorem plainList_keeps {h h' : Heap} {a : Addr} {items : Array Value} (x : h.PlainList a items) (k : KeepsH h h') : h'.PlainList a items := let ⟨n, e⟩ := x; ⟨n, k _ _ e⟩

theorem HR.keeps {G : GV} {α : List Addr} {h h' : Heap} {H : Hp} (r : HR G α h H) (k : KeepsH h h') : HR G α h' H :=
  ⟨r.len, r.nodup, r.pos, fun n a xs e1 e2 => let ⟨vs, l, q, z, p⟩ := r.lst n a xs e1 e2; ⟨vs, isList_keeps l k, q.mono (fun _ _ e => e) (.of k), z, fun hn => plainList_keeps (p hn) k⟩⟩

/-- a new list -/
theorem HR.push {G : GV} {α : List Addr} {h h' : Heap} {H : Hp} (r : HR G α h H) (k : KeepsH h h') {a : Addr} (ha : a ∉ α) {vs : List Value} {xs : List V} (hl : h'.PlainList a vs.toArray) (q : Reps G α h' vs xs) (z : xs.length ≤ lim) :
    HR G (α ++ [a]) h' (H ++ [xs]) := by
  refine ⟨by simp [r.len], ?_, by simp, fun n b ys e1 e2 => ?_⟩
  · rw [List.nodup_append]
    refine ⟨r.nodup, by simp, fun x hx y hy => ?_⟩
    simp at hy; subst hy; intro e; subst e; exact ha hx
  · by_cases hn : n < α.length
    · rw [List.getElem?_append_left hn] at e1
      rw [List.getElem?_append_left (r.len ▸ hn)] at e2
      obtain ⟨vs, l, q, z', p⟩ := r.lst n b ys e1 e2
      exact ⟨vs, isList_keeps l k, q.up k, z', fun hn => plainList_keeps (p hn) k⟩
    · have hn' : n = α.length := by
        have := (List.getElem?_eq_some_iff.mp e1).1
        simp at this; omega
      subst hn'
      rw [List.getElem?_append_right (Nat.le_refl _)] at e1
      rw [List.getElem?_append_right (by rw [r.len]; exact Nat.le_refl _)] at e2
      simp [r.len] at e1 e2
      subst e1 e2
      exact ⟨vs, hl.isList, q.mono ext_app (.of (.refl _)), z, fun _ => hl⟩

/-- a list is written -/
theorem HR.set {G : GV} {α : List Addr} {h h' : Heap} {H : Hp} (r : HR G α h H) {n : Nat} {a : Addr} (e : α[n]? = some a) {xs₀ : List V} (e0 : H[n]? = some xs₀) (hs : Heap.SameBut a h h') {vs : List Value} {xs : List V} (hl : h'.PlainList a vs.toArray) (q : Reps G α h vs xs) (z : xs.length ≤ lim) :
    KeepsT h h' ∧ HR G α h' (H.set n xs) := by
  obtain ⟨vs₀, ⟨o₀, ho₀, hc₀, _⟩, _⟩ := r.lst n a xs₀ e e0
  have kt : KeepsT h h' := fun b items x => by
    refine x.extBut hs.extBut fun q => ?_
    subst q
    obtain ⟨o, ho, hc, _⟩ := x
    rw [ho₀] at ho; cases ho
    rw [hc₀] at hc; exact absurd hc (by decide)
  refine ⟨kt, by simp [r.len], r.nodup, by simpa using r.pos, fun m b ys e1 e2 => ?_⟩
  by_cases hm : m = n
  · subst hm
    rw [e] at e1; cases e1
    have hlt : m < H.length := by rw [← r.len]; exact (List.getElem?_eq_some_iff.mp e).1
    rw [List.getElem?_set_self hlt] at e2
    cases e2
    exact ⟨vs, hl.isList, q.mono (fun _ _ e => e) kt, z, fun _ => hl⟩
  · rw [List.getElem?_set_ne (Ne.symm hm)] at e2
    obtain ⟨vs', l, q', z', p⟩ := r.lst m b ys e1 e2
    have hab : b ≠ a := fun hba => by
      subst hba
      have h1 := (List.getElem?_eq_some_iff.mp e1)
      have h2 := (List.getElem?_eq_some_iff.mp e)
      obtain ⟨l1, g1⟩ := h1
      obtain ⟨l2, g2⟩ := h2
      exact hm ((List.getElem_inj r.nodup).mp (g1.trans g2.symm))
    exact ⟨vs', l.extBut hs.extBut hab, q'.mono (fun _ _ e => e) kt, z', fun hn => let ⟨n', e'⟩ := p hn; ⟨n', hs.extBut _ _ hab e'⟩⟩

end Mine

set_option autoImplicit false
set_option linter.unusedSimpArgs false
set_option linter.unusedVariables false
namespace Mine
open PySem PyProof.Rows PySem.Calls

/-- a def of the text -/
structure DefT where
  name : Str
  params : Arguments
  body : List Stmt
  scope : Scope

noncomputable def bltNames : List Str := ["abs", "len", "int", "list", "tuple", "min", "isinstance", "reversed", "range", "bool"]

/-- what the top is known to hold -/
structure GF (G : GV) (gc : GC) (DT : List DefT) (h : Heap) : Prop where
  g : h.Ns mainGlobals G.mg
  b : h.Ns builtinsNs G.mb
  nolimit : h.NoLimit
  fn : ∀ (k : Nat) (x : Str), gc.fns[k]? = some x → G.mg x = some (.ref (G.fa k)) ∧ ∃ d o pm cd doc, DT[k]? = some d ∧ d.name = x ∧ h.get? (G.fa k) = some o ∧
    o.data = .func (docDef d.name d.params d.body d.scope pm cd doc) ∧ h.CodeRec cd d.name
  blt : ∀ x ∈ bltNames, G.mg x = none ∧ G.mb x = bootBuiltins x
  glob : ∀ x a b, (x, a, b) ∈ gc.globs → ∃ t ta tb, G.mg x = some (.ref t) ∧ IsTup h t #[.int a ta, .int b tb]

theorem GF.keeps {G : GV} {gc : GC} {DT : List DefT} {h h' : Heap} (F : GF G gc DT h) (k : KeepsH h h') : GF G gc DT h' where
  g := F.g.keeps k
  b := F.b.keeps k
  nolimit := F.nolimit.keeps k
  fn := fun i x e => let ⟨a, d, o, pm, cd, doc, b, c, f, g, r⟩ := F.fn i x e; ⟨a, d, o, pm, cd, doc, b, c, k _ _ f, g, r.keeps k⟩
  blt := F.blt
  glob := fun x a b e => let ⟨t, ta, tb, m, i⟩ := F.glob x a b e; ⟨t, ta, tb, m, i.keeps k⟩

structure EnvOk (c : MC) (env : Env) : Prop where
  kind : env.scope.kind = .function
  globals : env.globals = mainGlobals
  builtins : env.builtins = builtinsNs
  loc : ∀ x, c.scope.names.lookup x = some NameKind.local → env.kindOf x = some .local
  glob : ∀ x, c.scope.names.lookup x = some NameKind.globalImplicit → env.kindOf x = some .globalImplicit
  cel : ∀ x, c.scope.names.lookup x = some NameKind.cell → env.kindOf x = some .cell
  fre : ∀ x, c.scope.names.lookup x = some NameKind.free → env.kindOf x = some .cell ∨ env.kindOf x = some .free
  cells : ∀ x, env.kindOf x = some .cell ∨ env.kindOf x = some .free → ∃ a, env.cells.lookup x = some a

noncomputable def VarAt (env : Env) (h : Heap) (x : Str) (v : Value) : Prop :=
  (env.kindOf x = some .local ∧ ∃ m, h.Ns env.locals m ∧ m x = some v) ∨
  ((env.kindOf x = some .cell ∨ env.kindOf x = some .free) ∧ ∃ c, env.cells.lookup x = some c ∧ h.IsCell c (some v))

theorem isCell_keeps {h h' : Heap} {c : Addr} {v : Option Value} (x : h.IsCell c v) (k : KeepsH h h') : h'.IsCell c v := let ⟨o, ho, r⟩ := x; ⟨o, k _ _ ho, r⟩
theorem VarAt.keeps {env : Env} {h h' : Heap} {x : Str} {v : Value} (a : VarAt env h x v) (k : KeepsH h h') : VarAt env h' x v := by
  rcases a with ⟨a, m, b, c⟩ | ⟨a, c, b, d⟩
  · exact .inl ⟨a, m, b.keeps k, c⟩
  · exact .inr ⟨a, c, b, isCell_keeps d k⟩

/-- the frame's variables -/
noncomputable def FI (G : GV) (c : MC) (env : Env) (α : List Addr) (h : Heap) (ρ : Loc) : Prop :=
  ∀ (i : Nat) (x : Str) (d : V), c.names[i]? = some x → lget ρ i = some d → ∃ v, VarAt env h x v ∧ Rep G α h v d
theorem FI.up {G : GV} {c : MC} {env : Env} {α β : List Addr} {h h' : Heap} {ρ : Loc} (F : FI G c env α h ρ) (k : KeepsH h h') : FI G c env (α ++ β) h' ρ :=
  fun i x d e1 e2 => let ⟨v, a, b⟩ := F i x d e1 e2; ⟨v, a.keeps k, b.up k⟩

/-- the post of a look: the heap has grown, the mini heap too -/
inductive Post {γ δ : Type} (G : GV) (RR : List Addr → Heap → γ → δ → Prop) (s : Shared) (α : List Addr) (H : Hp) (Q : δ → Hp → Prop) (v : γ) (s' : Shared) : Prop
  | mk (h' : Heap) (tk : Nat) (β : List Addr) (K : Hp) (d : δ) (e : s' = { s with heap := h', toks := tk }) (k : KeepsH s.heap h') (f : ∀ b ∈ β, s.heap.get? b = none) (R : HR G (α ++ β) h' (H ++ K)) (r : RR (α ++ β) h' v d) (q : Q d (H ++ K))

section
variable {prog : Program} {w : World} {A : Around} {E : Value → Shared → Prop} {s : Shared} {G : GV} {α : List Addr} {H : Hp}

theorem Post.same {γ δ : Type} {RR : List Addr → Heap → γ → δ → Prop} {Q : δ → Hp → Prop} {v : γ} {d : δ} (R : HR G α s.heap H) (r : RR α s.heap v d) (q : Q d H) (tk : Nat) : Post G RR s α H Q v { s with toks := tk } :=
  ⟨s.heap, tk, [], [], d, rfl, .refl _, by simp, by simpa using R, by simpa using r, by simpa using q⟩
theorem Post.same' {γ δ : Type} {RR : List Addr → Heap → γ → δ → Prop} {Q : δ → Hp → Prop} {v : γ} {d : δ} (R : HR G α s.heap H) (r : RR α s.heap v d) (q : Q d H) : Post G RR s α H Q v s :=
  Post.same R r q s.toks

theorem Post.trans {γ δ : Type} {RR : List Addr → Heap → γ → δ → Prop} {Q : δ → Hp → Prop} {v : γ} {s' : Shared} {h₁ : Heap} {tk₁ : Nat} {β : List Addr} {K : Hp}
    (k : KeepsH s.heap h₁) (f : ∀ b ∈ β, s.heap.get? b = none) (p : Post G RR { s with heap := h₁, toks := tk₁ } (α ++ β) (H ++ K) Q v s') : Post G RR s α H Q v s' := by
  obtain ⟨h', tk, β', K', d, rfl, k', f', R, r, q⟩ := p
  refine ⟨h', tk, β ++ β', K ++ K', d, rfl, k.trans k', fun b hb => ?_, by simpa using R, by simpa using r, by simpa using q⟩
  rcases List.mem_append.mp hb with hb | hb
  · exact f b hb
  · cases e : s.heap.get? b with
    | none => rfl
    | some o => have := k b o e; rw [show h₁.get? b = none from f' b hb] at this; cases this

theorem Post.mono {γ δ : Type} {RR : List Addr → Heap → γ → δ → Prop} {Q Q' : δ → Hp → Prop} {v : γ} {s' : Shared} (p : Post G RR s α H Q v s') (hq : ∀ d H, Q d H → Q' d H) : Post G RR s α H Q' v s' := by
  obtain ⟨h', tk, β, K, d, e, k, f, R, r, q⟩ := p
  exact ⟨h', tk, β, K, d, e, k, f, R, r, hq _ _ q⟩

/-- one look, then the next -/
theorem Post.then {γ δ γ' δ' : Type} {RR : List Addr → Heap → γ → δ → Prop} {RR' : List Addr → Heap → γ' → δ' → Prop} {Q : δ → Hp → Prop} {Q' : δ' → Hp → Prop} {v : γ} {s₁ : Shared} {t : Sem γ'}
    (p : Post G RR s α H Q v s₁)
    (h : ∀ h₁ tk₁ β K d, KeepsH s.heap h₁ → (∀ b ∈ β, s.heap.get? b = none) → HR G (α ++ β) h₁ (H ++ K) → RR (α ++ β) h₁ v d → Q d (H ++ K) →
      wpAny (model prog w) A t (Post G RR' { s with heap := h₁, toks := tk₁ } (α ++ β) (H ++ K) Q') E { s with heap := h₁, toks := tk₁ }) :
    wpAny (model prog w) A t (Post G RR' s α H Q') E s₁ := by
  obtain ⟨h', tk, β, K, d, rfl, k, f, R, r, q⟩ := p
  exact wpAny_mono (h h' tk β K d k f R r q) (fun _ _ x => x.trans k f) fun _ _ x => x

/-- the same, where the end is any post that the walk wants -/
theorem Post.go {γ δ γ' : Type} {RR : List Addr → Heap → γ → δ → Prop} {Q : δ → Hp → Prop} {v : γ} {s₁ : Shared} {t : Sem γ'} {Z : γ' → Shared → Prop}
    (p : Post G RR s α H Q v s₁)
    (h : ∀ h₁ tk₁ β K d, KeepsH s.heap h₁ → (∀ b ∈ β, s.heap.get? b = none) → HR G (α ++ β) h₁ (H ++ K) → RR (α ++ β) h₁ v d → Q d (H ++ K) →
      wpAny (model prog w) A t Z E { s with heap := h₁, toks := tk₁ }) :
    wpAny (model prog w) A t Z E s₁ := by
  obtain ⟨h', tk, β, K, d, rfl, k, f, R, r, q⟩ := p
  exact h h' tk β K d k f R r q
end

theorem MC.isVar_spec {c : MC} {i : Nat} {x : Str} (h : c.isVar i x = true) : c.names[i]? = some x ∧ (x == Str.ofString "__debug__") = false ∧ (x == Str.ofString "__classdict__") = false ∧
    (c.scope.names.lookup x = some NameKind.local ∨ c.scope.names.lookup x = some NameKind.cell ∨ c.scope.names.lookup x = some NameKind.free) := by
  unfold MC.isVar at h
  simp only [Bool.and_eq_true, Bool.or_eq_true, decide_eq_true_eq, Bool.not_eq_true'] at h
  obtain ⟨⟨⟨a, b⟩, d⟩, e⟩ := h
  exact ⟨a, b, d, by rcases e with (e | e) | e <;> simp [e]⟩
theorem MC.isGlob_spec {c : MC} {x : Str} (h : c.isGlob x = true) : c.scope.names.lookup x = some NameKind.globalImplicit ∧ (x == Str.ofString "__debug__") = false := by
  unfold MC.isGlob at h
  simpa only [Bool.and_eq_true, decide_eq_true_eq, Bool.not_eq_true'] using h
theorem MC.isNm_spec {c : MC} {e : Expr} {x : Str} (h : c.isNm e x = true) : ∃ pos, e = .Name x pos ∧ c.isGlob x = true := by
  unfold MC.isNm at h
  split at h
  · simp only [Bool.and_eq_true, beq_iff_eq] at h
    obtain ⟨rfl, h⟩ := h
    exact ⟨_, rfl, h⟩
  · cases h

section
variable {M : Model} {A : Around} {E : Value → Shared → Prop} {s : Shared} {c : MC} {env : Env} {Q : Value → Shared → Prop}

theorem load_var {i : Nat} {x : Str} {pos : Pos} {v : Value} (O : EnvOk c env) (hx : c.isVar i x = true) (hv : VarAt env s.heap x v) (h : Q v s) : wpAny M A (eval (.Name x pos) env) Q E s := by
  obtain ⟨_, hd, hn, _⟩ := MC.isVar_spec hx
  refine wpAny_Name ?_ hd
  rcases hv with ⟨k, m, hm, e⟩ | ⟨k | k, cc, hc, hv⟩
  · exact wpAny_loadName_local O.kind k hm e h
  · exact wpAny_loadName_cell O.kind k hc hv h
  · exact wpAny_loadName_free O.kind k hc hv h hn

theorem load_glob {G : GV} {x : Str} {pos : Pos} {v : Value} (O : EnvOk c env) (hx : c.isGlob x = true) (hg : s.heap.Ns mainGlobals G.mg) (hv : G.mg x = some v) (h : Q v s) : wpAny M A (eval (.Name x pos) env) Q E s := by
  obtain ⟨hk, hd⟩ := MC.isGlob_spec hx
  exact Name_function_global O.kind (O.glob x hk) (loadGlobal_global (O.globals ▸ hg) hv h) hd
theorem load_blt {G : GV} {x : Str} {pos : Pos} {v : Value} (O : EnvOk c env) (hx : c.isGlob x = true) (hg : s.heap.Ns mainGlobals G.mg) (hm : G.mg x = none) (hb : s.heap.Ns builtinsNs G.mb) (hv : G.mb x = some v) (h : Q v s) :
    wpAny M A (eval (.Name x pos) env) Q E s := by
  obtain ⟨hk, hd⟩ := MC.isGlob_spec hx
  exact Name_function_global O.kind (O.glob x hk) (loadGlobal_builtin (O.globals ▸ hg) hm (O.builtins ▸ hb) hv h) hd
end

/-- what the calls are known to give -/
structure AOk (A : Around) : Prop where
  handled : A.handled = none
  units : A.units + 100 < cLine

noncomputable def SCall (prog : Program) (w : World) (G : GV) (gc : GC) (DT : List DefT) (A : Around) (Φ : Call) : Prop :=
  ∀ (f : Nat) (x : Str) (vs : List V) (H : Hp) (Q : V → Hp → Prop), gc.fns[f]? = some x → Φ f vs H Q (fun _ _ => False) → ∀ (s : Shared) (α : List Addr) (vals : List Value) (E : Value → Shared → Prop),
    GF G gc DT s.heap → HR G α s.heap H → Reps G α s.heap vals vs → wpAny (model prog w) A (call (.ref (G.fa f)) vals) (Post G (Rep G) s α H Q) E s

structure SX where
  prog : Program
  w : World
  G : GV
  DT : List DefT
  A : Around
  sub : Nat → Nat → Bool
  Φ : Call

/-- the soundness of an expression -/
noncomputable def SE (X : SX) (c : MC) (pe : PE) (e : Expr) : Prop :=
  ∀ (env : Env) (s : Shared) (α : List Addr) (ρ : Loc) (H : Hp) (Q : V → Hp → Prop) (E : Value → Shared → Prop), EnvOk c env → GF X.G c.g X.DT s.heap → HR X.G α s.heap H → FI X.G c env α s.heap ρ →
    wpE X.sub X.Φ pe ρ H Q → wpAny (model X.prog X.w) X.A (eval e env) (Post X.G (Rep X.G) s α H Q) E s
noncomputable def SEs (X : SX) (c : MC) (pes : PEs) (es : List Expr) : Prop :=
  ∀ (env : Env) (s : Shared) (α : List Addr) (ρ : Loc) (H : Hp) (Q : List V → Hp → Prop) (E : Value → Shared → Prop) (pos : Pos), EnvOk c env → GF X.G c.g X.DT s.heap → HR X.G α s.heap H → FI X.G c env α s.heap ρ →
    wpEs X.sub X.Φ pes ρ H Q → wpAny (model X.prog X.w) X.A (spliced (backTo pos (starEach es env))) (Post X.G (fun α h vs ds => Reps X.G α h vs ds ∧ vs.length = es.length) s α H Q) E s

section
variable {X : SX} {c : MC}

theorem se_cint {i k : _} {pos : Pos} : SE X c (.cint i) (.Constant (.int i) k pos) := fun env s α ρ H Q E _ _ R _ q =>
  wpAny_Constant_int (Post.same R (Rep.int _ _) q _)
theorem se_cbool {i k : _} {pos : Pos} : SE X c (.cbool i) (.Constant (.bool i) k pos) := fun env s α ρ H Q E _ _ R _ q =>
  wpAny_Constant_bool (Post.same' R (Rep.bool _) q)
theorem se_cnone {k : _} {pos : Pos} : SE X c .cnone (.Constant .none k pos) := fun env s α ρ H Q E _ _ R _ q =>
  wpAny_Constant_none (Post.same' R Rep.none q)
theorem se_cstr {i k : _} {pos : Pos} : SE X c (.cstr i) (.Constant (.str i) k pos) := fun env s α ρ H Q E _ _ R _ q =>
  wpAny_Constant_str (Post.same R (Rep.str _ _) q _)
theorem se_var {i : Nat} {x : Str} {pos : Pos} (hx : c.isVar i x = true) : SE X c (.var i) (.Name x pos) := fun env s α ρ H Q E O _ R F q => by
  obtain ⟨v, e, q⟩ := ifSome.get q
  obtain ⟨u, hu, r⟩ := F i x v (MC.isVar_spec hx).1 e
  exact load_var O hx hu (Post.same' R r q)
theorem se_fnv {i : Nat} {x : Str} {pos : Pos} (hf : c.g.fns[i]? = some x) (hx : c.isGlob x = true) : SE X c (.fnv i) (.Name x pos) := fun env s α ρ H Q E O T R F q =>
  load_glob O hx T.g (T.fn i x hf).1 (Post.same' R (Rep.fn rfl) q)
theorem se_glob {x : Str} {a b : Int} {e : Expr} (hf : (x, a, b) ∈ c.g.globs) (hx : c.isNm e x = true) : SE X c (.glob x a b) e := fun env s α ρ H Q E O T R F q => by
  obtain ⟨pos, rfl, hx2⟩ := MC.isNm_spec hx
  obtain ⟨t, ta, tb, hm, ht⟩ := T.glob x a b hf
  exact load_glob O hx2 T.g hm (Post.same' R (Rep.tup (vs := [.int a ta, .int b tb]) ht (.cons (.int _ _) (.cons (.int _ _) .nil)) (by show 2 ≤ lim; decide)) q)

theorem ses_nil : SEs X c .nil [] := fun env s α ρ H Q E pos _ _ R _ q => args_nil (Post.same' R ⟨Reps.nil, rfl⟩ q)
theorem ses_cons {pe : PE} {e : Expr} {ps : PEs} {es : List Expr} (hs : (match e with | .Starred .. => false | _ => true) = true) (h1 : SE X c pe e) (h2 : SEs X c ps es) : SEs X c (.cons pe ps) (e :: es) :=
  fun env s α ρ H Q E pos O T R F q => by
  have he : starEach (e :: es) env = (false, eval e env) :: starEach es env := by cases e <;> first | rfl | cases hs
  refine args_cons (wpAny_mono (h1 env s α ρ H _ E O T R F q) (fun v s₁ p => ?_) fun _ _ x => x) he
  refine p.go fun h₁ tk₁ β K d k f R' r q' => ?_
  refine wpAny_mono (h2 env _ (α ++ β) ρ (H ++ K) _ E pos O (T.keeps k) R' (F.up k) q') (fun vs s₂ p₂ => ?_) fun _ _ x => x
  obtain ⟨h₂, tk₂, β₂, K₂, ds, rfl, k₂, f₂, R₂, r₂, q₂⟩ := p₂
  refine Post.trans (tk₁ := tk₁) k f ⟨h₂, tk₂, β₂, K₂, d :: ds, rfl, k₂, f₂, R₂, ⟨.cons (r.up k₂) r₂.1, by simp [r₂.2]⟩, q₂⟩

theorem keeps_push (h : Heap) (o : Obj) : KeepsH h (h.push o) := fun _ _ e => Heap.get?_push_of_some o e
theorem size_none (h : Heap) : h.get? h.objs.size = none := by
  cases e : h.get? h.objs.size with
  | none => rfl
  | some o => exact absurd (Heap.lt_size e) (Nat.lt_irrefl _)
theorem lim_le : lim ≤ sizeLine := by rw [sizeLine_eq]; decide

/-- a new tuple -/
theorem Post.newTup {s : Shared} {G : GV} {α : List Addr} {H : Hp} {vs : List Value} {xs : List V} {Q : V → Hp → Prop} (R : HR G α s.heap H) (r : Reps G α s.heap vs xs) (z : xs.length ≤ lim) (q : Q (.tup xs) H) {n : Nat} (tk : Nat) :
    Post G (Rep G) s α H Q (.ref s.heap.objs.size) { s with heap := s.heap.push { cls := .type "tuple", data := .seq vs.toArray n }, toks := tk } := by
  refine ⟨_, tk, [], [], .tup xs, rfl, keeps_push _ _, by simp, by simpa using R.keeps (keeps_push _ _), ?_, by simpa using q⟩
  exact Rep.tup (vs := vs) ⟨_, Heap.get?_push_size _ rfl, rfl, n, rfl⟩ (r.up (keeps_push _ _)) z
/-- a new list -/
theorem Post.newLst {s : Shared} {G : GV} {α : List Addr} {H : Hp} {vs : List Value} {xs : List V} {Q : V → Hp → Prop} (R : HR G α s.heap H) {h' : Heap} (k : KeepsH s.heap h') (r : Reps G α h' vs xs) (z : xs.length ≤ lim) (q : Q (.lst H.length) (H ++ [xs]))
    {D : Addr} (hD : s.heap.get? D = none) (hl : h'.PlainList D vs.toArray) (tk : Nat) :
    Post G (Rep G) s α H Q (.ref D) { s with heap := h', toks := tk } := by
  refine ⟨h', tk, [D], [xs], .lst H.length, rfl, k, by simpa using hD, R.push k (fun hm => ?_) hl r z, ?_, q⟩
  · obtain ⟨n, hn⟩ := List.mem_iff_getElem?.mp hm
    obtain ⟨ys, hy⟩ := R.at hn
    obtain ⟨us, ⟨o, ho, _⟩, _⟩ := R.lst n D ys hn hy
    rw [hD] at ho; cases ho
  · refine Rep.lst ?_
    rw [List.getElem?_append_right (by rw [R.len]; exact Nat.le_refl _)]; simp [R.len]
theorem Post.newLst' {s : Shared} {G : GV} {α : List Addr} {H : Hp} {vs : List Value} {xs : List V} {Q : V → Hp → Prop} (R : HR G α s.heap H) (r : Reps G α s.heap vs xs) (z : xs.length ≤ lim) (q : Q (.lst H.length) (H ++ [xs])) {n : Nat} (tk : Nat) :
    Post G (Rep G) s α H Q (.ref s.heap.objs.size) { s with heap := s.heap.push { cls := .type "list", data := .seq vs.toArray n }, toks := tk } :=
  Post.newLst R (keeps_push _ _) (r.mono (fun _ _ e => e) (.of (keeps_push _ _))) z q (size_none _) ⟨n, Heap.get?_push_size _ rfl⟩ tk

theorem se_tup {ps : PEs} {es : List Expr} {k : Nat} {pos : Pos} (hn : es.length ≤ 1000) (h : SEs X c ps es) : SE X c (.tup ps) (.Tuple es k pos) := fun env s α ρ H Q E O T R F q => by
  refine wpAny_Tuple (wpAny_mono (h env s α ρ H _ E pos O T R F q) (fun vs s₁ p => ?_) fun _ _ x => x)
  obtain ⟨h₁, tk₁, β, K, ds, rfl, k₁, f, R', r, q'⟩ := p
  have hl := r.1.len
  refine ⟨by rw [r.2]; exact Nat.le_trans hn (Nat.le_trans (by decide) lim_le), Post.trans (tk₁ := tk₁) (K := K) k₁ f ?_⟩
  exact Post.newTup (s := { s with heap := h₁, toks := tk₁ }) R' r.1 (by rw [← hl, r.2]; exact Nat.le_trans hn (by decide)) q' tk₁
theorem se_lst {ps : PEs} {es : List Expr} {pos : Pos} (hn : es.length ≤ 1000) (h : SEs X c ps es) : SE X c (.lst ps) (.List es pos) := fun env s α ρ H Q E O T R F q => by
  refine wpAny_List (wpAny_mono (h env s α ρ H _ E pos O T R F q) (fun vs s₁ p => ?_) fun _ _ x => x)
  obtain ⟨h₁, tk₁, β, K, ds, rfl, k₁, f, R', r, q'⟩ := p
  have hl := r.1.len
  refine ⟨by rw [r.2]; exact Nat.le_trans hn (Nat.le_trans (by decide) lim_le), Post.trans (tk₁ := tk₁) (K := K) k₁ f ?_⟩
  exact Post.newLst' (s := { s with heap := h₁, toks := tk₁ }) R' r.1 (by rw [← hl, r.2]; exact Nat.le_trans hn (by decide)) q' tk₁

/-! two operands -/
theorem two {a b : PE} {l r : Expr} {ρ : Loc} {env : Env} {s : Shared} {α : List Addr} {H : Hp} {E : Value → Shared → Prop} {Q : V → V → Hp → Prop} {Z : Value → Value → Shared → Prop} (h1 : SE X c a l) (h2 : SE X c b r)
    (O : EnvOk c env) (T : GF X.G c.g X.DT s.heap) (R : HR X.G α s.heap H) (F : FI X.G c env α s.heap ρ)
    (q : wpE X.sub X.Φ a ρ H fun x H1 => wpE X.sub X.Φ b ρ H1 fun y H2 => Q x y H2)
    (hz : ∀ h' tk β K u v x y, KeepsH s.heap h' → (∀ b ∈ β, s.heap.get? b = none) → HR X.G (α ++ β) h' (H ++ K) → Rep X.G (α ++ β) h' u x → Rep X.G (α ++ β) h' v y → Q x y (H ++ K) → Z u v { s with heap := h', toks := tk }) :
    wpAny (model X.prog X.w) X.A (eval l env) (fun u s₁ => wpAny (model X.prog X.w) X.A (eval r env) (fun v s₂ => Z u v s₂) E s₁) E s := by
  refine wpAny_mono (h1 env s α ρ H _ E O T R F q) (fun u s₁ p => ?_) fun _ _ x => x
  refine p.go fun h₁ tk₁ β K d k f R' r q' => ?_
  refine wpAny_mono (h2 env _ (α ++ β) ρ (H ++ K) _ E O (T.keeps k) R' (F.up k) q') (fun v s₂ p₂ => ?_) fun _ _ x => x
  obtain ⟨h₂, tk₂, β₂, K₂, e, rfl, k₂, f₂, R₂, r₂, q₂⟩ := p₂
  have := hz h₂ tk₂ (β ++ β₂) (K ++ K₂) u v d e (k.trans k₂) (fun b hb => ?_) (by simpa using R₂) (by simpa using (r.up (β := β₂) k₂)) (by simpa using r₂) (by simpa using q₂)
  · exact this
  · rcases List.mem_append.mp hb with hb | hb
    · exact f b hb
    · cases e : s.heap.get? b with
      | none => rfl
      | some o => have := k b o e; rw [show h₁.get? b = none from f₂ b hb] at this; cases this

section
variable {prog : Program} {w : World} {A : Around} {E : Value → Shared → Prop} {s : Shared} {G : GV} {α : List Addr} {H : Hp} {Q : V → Hp → Prop}
theorem add_lists' {l b : Addr} {vs ws : List Value} {Z : Value → Shared → Prop} (hl : s.heap.IsList l vs.toArray) (hb : s.heap.IsList b ws.toArray) (hsz : vs.length + ws.length ≤ sizeLine)
    (h : Z (.ref s.heap.objs.size) { s with heap := s.heap.push { cls := .type "list", data := .seq (vs ++ ws).toArray } }) : wpAny (model prog w) A (binaryOp .Add (.ref l) (.ref b)) Z E s := by
  obtain ⟨⟨c1, d1, t1, sl1⟩, o1, e1, n1, f1⟩ := hl
  obtain ⟨⟨c2, d2, t2, sl2⟩, o2, e2, n2, f2⟩ := hb
  dsimp only at e1 f1 e2 f2
  subst e1 f1 e2 f2
  refine concat_meets ⟨_, o1, rfl⟩ ⟨_, o2, rfl⟩ noFill_list_add seq_list_add PySem.F.slot_list_add PySem.F.entry_list_add (PySem.F.args_list_add_2 _ _) (list_addW l b vs.toArray ws.toArray n1 n2 d1 d2 sl1 sl2 (by simpa using hsz)) ⟨o1, o2, ?_⟩
  simpa using h
end
end
end Mine

set_option autoImplicit false
set_option linter.unusedSimpArgs false
set_option linter.unusedVariables false
namespace Mine
open PySem PyProof.Rows PySem.Calls

section
variable {prog : Program} {w : World} {A : Around} {E : Value → Shared → Prop} {s : Shared} {G : GV} {α : List Addr} {H : Hp} {Q : V → Hp → Prop}

theorem HR.getList (R : HR G α s.heap H) {a : Addr} {n : Nat} {xs : List V} (e : α[n]? = some a) (h : H[n]? = some xs) : ∃ vs : List Value, s.heap.IsList a vs.toArray ∧ Reps G α s.heap vs xs ∧ xs.length ≤ lim ∧ vs.length ≤ lim := by
  obtain ⟨vs, l, r, z, _⟩ := R.lst n a xs e h
  exact ⟨vs, l, r, z, by rw [r.len]; exact z⟩

/-- the items of a sequence -/
theorem seqOf {v : Value} {d : V} {xs : List V} (R : HR G α s.heap H) (r : Rep G α s.heap v d) (e : items H d = some xs) :
    ∃ (a : Addr) (vs : List Value), v = .ref a ∧ Reps G α s.heap vs xs ∧ xs.length ≤ lim ∧ vs.length ≤ lim ∧ ((IsTup s.heap a vs.toArray ∧ ∃ ys, d = .tup ys) ∨ (s.heap.IsList a vs.toArray ∧ ∃ n, d = .lst n)) := by
  cases r with
  | tup t q z => cases e; exact ⟨_, _, rfl, q, z, by rw [q.len]; exact z, .inl ⟨t, _, rfl⟩⟩
  | lst q =>
    obtain ⟨vs, l, r, z, y⟩ := R.getList q e
    exact ⟨_, vs, rfl, r, z, y, .inr ⟨l, _, rfl⟩⟩
  | _ => cases e

theorem fold_replicate (v : Value) : ∀ n : Nat, List.foldl (fun x1 x2 : Array Value => x1 ++ x2) #[] (List.replicate n #[v]) = (List.replicate n v).toArray := by
  intro n
  have key : ∀ (n : Nat) (acc : Array Value), List.foldl (fun x1 x2 : Array Value => x1 ++ x2) acc (List.replicate n #[v]) = acc ++ (List.replicate n v).toArray := by
    intro n
    induction n with
    | zero => intro acc; simp
    | succ n ih =>
      intro acc
      rw [List.replicate_succ, List.foldl_cons, ih, List.replicate_succ]
      apply Array.ext'
      simp
  rw [key]; simp

theorem mul_list' {l : Addr} {v : Value} {k : Int} {u : Tok} {Z : Value → Shared → Prop} (hl : s.heap.IsList l [v].toArray) (h0 : 0 ≤ k) (h1 : k ≤ lim)
    (h : Z (.ref s.heap.objs.size) { s with heap := s.heap.push { cls := .type "list", data := .seq (List.replicate k.toNat v).toArray } }) : wpAny (model prog w) A (binaryOp .Mult (.ref l) (.int k u)) Z E s := by
  obtain ⟨⟨c1, d1, t1, sl1⟩, o1, e1, n1, f1⟩ := hl
  dsimp only at e1 f1
  subst e1 f1
  have hk : k.toNat ≤ 1000000 := by have h2 : k ≤ 1000000 := h1; omega
  have hk' : k ≤ 1000000 := h1
  refine wpAny_binaryOp_repeat_ref (T := "list") (U := "int") (by decide) ⟨_, o1, rfl⟩ (fun s' => typeIs_int s' k u) noFill_list_mul F.fills_int_mul F.slot_int_rmul repeat_list F.slot_int_index.lookup
    (call_meets F.slot_int_rmul (typeIs_int s k u) F.entry_int_rmul (F.args_int_rmul_2 _ _) (lm_int_rmul_list_any k u l [v].toArray n1 d1 sl1)
      ⟨o1, rfl, ⟨_, o1, rfl⟩, call_meets F.slot_list_mul ⟨_, o1, rfl⟩ F.entry_list_mul (F.args_list_mul_2 _ _)
        (lm_list_mul_any l [v].toArray n1 d1 sl1 k u (by simp [Builtin.List.listFitsIndex]; omega) (by simp; omega) (by simp [Builtin.List.listTooLong, sizeLine]; omega))
        ⟨o1, ?_⟩⟩)
  have e : (if ([v].toArray).isEmpty = true then 0 else k.toNat) = k.toNat := by simp
  rw [e, show ([v].toArray : Array Value) = #[v] from rfl, fold_replicate]
  exact h

theorem binOp_sound {op : BOp} {u v : Value} {x y : V} (R : HR G α s.heap H) (ru : Rep G α s.heap u x) (rv : Rep G α s.heap v y) (q : binWp op x y H Q) :
    wpAny (model prog w) A (binaryOp (opOf op) u v) (Post G (Rep G) s α H Q) E s := by
  cases op
  · cases x <;> first | exact False.elim q | skip
    · cases y <;> first | exact False.elim q | skip
      obtain ⟨t, rfl⟩ := ru.int_inv
      obtain ⟨t', rfl⟩ := rv.int_inv
      exact add_int (Post.same R (.int _ _) q _)
    · cases y <;> first | exact False.elim q | skip
      obtain ⟨a, rfl, e1⟩ := ru.lst_inv
      obtain ⟨b, rfl, e2⟩ := rv.lst_inv
      obtain ⟨xs, h1, q⟩ := ifSome.get q
      obtain ⟨ys, h2, hz, q⟩ := ifSome.get q
      obtain ⟨vs, l1, r1, z1, z1'⟩ := R.getList e1 h1
      obtain ⟨ws, l2, r2, z2, z2'⟩ := R.getList e2 h2
      have hlen : vs.length + ws.length ≤ lim := by rw [r1.len, r2.len]; exact hz
      exact add_lists' l1 l2 (Nat.le_trans hlen lim_le) (Post.newLst' R (r1.append r2) (by rw [List.length_append]; exact hz) q s.toks)
  · cases x <;> first | exact False.elim q | skip
    cases y <;> first | exact False.elim q | skip
    obtain ⟨t, rfl⟩ := ru.int_inv
    obtain ⟨t', rfl⟩ := rv.int_inv
    exact sub_int (Post.same R (.int _ _) q _)
  · cases x <;> first | exact False.elim q | skip
    · cases y <;> first | exact False.elim q | skip
      obtain ⟨t, rfl⟩ := ru.int_inv
      obtain ⟨t', rfl⟩ := rv.int_inv
      exact mul_int (Post.same R (.int _ _) q.2 _) q.1
    · cases y <;> first | exact False.elim q | skip
      rename_i k
      obtain ⟨a, rfl, e1⟩ := ru.lst_inv
      obtain ⟨t', rfl⟩ := rv.int_inv
      obtain ⟨x, h1, h0, hk, q⟩ := q
      obtain ⟨vs, l1, r1, z1, z1'⟩ := R.getList e1 h1
      obtain ⟨v, rfl, rx⟩ := r1.one_inv
      have hk' : k.toNat ≤ lim := by have h2 : k ≤ 1000000 := hk; show _ ≤ 1000000; omega
      exact mul_list' l1 h0 hk (Post.newLst' R (Reps.replicate rx k.toNat) (by rw [List.length_replicate]; exact hk') q s.toks)
  · cases x <;> first | exact False.elim q | skip
    cases y <;> first | exact False.elim q | skip
    rename_i i j
    obtain ⟨t, rfl⟩ := ru.int_inv
    obtain ⟨t', rfl⟩ := rv.int_inv
    replace q : DivOk j ∧ Q (.int (i.fdiv j)) H := q
    refine floordiv_int q.1.1 (Post.same R (.int _ _) q.2 _) (Or.inl (PyProof.noPylong_of_log2 ?_))
    exact (Nat.log2_lt (Int.natAbs_ne_zero.mpr q.1.1)).mpr (Nat.lt_of_lt_of_le q.1.2 (Nat.pow_le_pow_right (by decide) (by decide)))
  · cases x <;> first | exact False.elim q | skip
    cases y <;> first | exact False.elim q | skip
    obtain ⟨t, rfl⟩ := ru.int_inv
    obtain ⟨t', rfl⟩ := rv.int_inv
    exact mod_int' q.1 (Post.same R (.int _ _) q.2 _)
  · cases x <;> first | exact False.elim q | skip
    cases y <;> first | exact False.elim q | skip
    obtain ⟨t, rfl⟩ := ru.int_inv
    obtain ⟨t', rfl⟩ := rv.int_inv
    exact pow_int_small q.1 (by have := q.2.1; omega) q.2.2.1 (Post.same R (.int _ _) q.2.2.2 _)

/-! data -/
mutual
theorem datReads (R : HR G α s.heap H) : ∀ (n : Nat) {v : Value} {x : V} {d : PyData}, Rep G α s.heap v x → datOf H n x = some d → ∃ as, Reads s.heap v d as
  | n, _, _, d, .int i t, e => by cases n <;> (simp [datOf] at e; subst e; exact ⟨_, .int _ _⟩)
  | n, _, _, d, .bool b, e => by cases n <;> (simp [datOf] at e; subst e; exact ⟨_, .bool _⟩)
  | n, _, _, d, .none, e => by cases n <;> (simp [datOf] at e; subst e; exact ⟨_, .none⟩)
  | n, _, _, d, .str _ _, e => by cases n <;> (simp only [datOf, Option.ite_none_right_eq_some, Option.some.injEq] at e; obtain ⟨_, rfl⟩ := e; exact ⟨_, .str _ _⟩)
  | 0, _, _, d, .tup t q z, e => by simp [datOf] at e
  | n + 1, _, _, d, .tup (vs := vs) t q z, e => by
    simp only [datOf, Option.map_eq_some_iff] at e
    obtain ⟨ds, e, rfl⟩ := e
    obtain ⟨as, r⟩ := datReadsAll R n q e
    obtain ⟨o, ho, hc, k, hd⟩ := t
    exact ⟨_, .tuple ho hc hd (by simpa using r)⟩
  | 0, _, _, d, .lst _, e => by simp [datOf] at e
  | n + 1, _, _, d, .lst (n := m) ha, e => by
    simp only [datOf] at e
    split at e
    · rename_i xs hx
      simp only [Option.map_eq_some_iff] at e
      obtain ⟨ds, e, rfl⟩ := e
      obtain ⟨vs, ⟨o, ho, hc, k, hd⟩, q, _⟩ := R.lst m _ xs ha hx
      obtain ⟨as, r⟩ := datReadsAll R n q e
      exact ⟨_, .list ho hc hd (by simpa using r)⟩
    · cases e
  | n, _, _, d, .fn _, e => by cases n <;> simp [datOf] at e
theorem datReadsAll (R : HR G α s.heap H) : ∀ (n : Nat) {vs : List Value} {xs : List V} {ds : List PyData}, Reps G α s.heap vs xs → xs.mapM (datOf H n) = some ds → ∃ as, ReadsAll s.heap vs ds as
  | n, _, _, ds, .nil, e => by simp at e; subst e; exact ⟨_, .nil⟩
  | n, _, _, ds, .cons a b, e => by
    simp only [List.mapM_cons, Option.bind_eq_bind, Option.bind_eq_some_iff, Option.pure_def, Option.some.injEq] at e
    obtain ⟨d, e1, ds', e2, rfl⟩ := e
    obtain ⟨as, r⟩ := datReads R n a e1
    obtain ⟨bs, r2⟩ := datReadsAll R n b e2
    exact ⟨_, .cons r r2⟩
end
end
end Mine

set_option autoImplicit false
set_option linter.unusedSimpArgs false
set_option linter.unusedVariables false
namespace Mine
open PySem PyProof.Rows PySem.Calls

theorem datShapeAll (H : Hp) (n : Nat) (ih : ∀ {x : V} {d : PyData}, datOf H n x = some d → d.canLay0 = true ∧ d.depth ≤ n + 1) :
    ∀ {xs : List V} {ds : List PyData}, xs.mapM (datOf H n) = some ds → PyData.canLayAll0 ds = true ∧ PyData.depthAll ds ≤ n + 1
  | [], ds, e => by simp at e; subst e; simp [PyData.canLayAll0, PyData.depthAll]
  | x :: xs, ds, e => by
    simp only [List.mapM_cons, Option.bind_eq_bind, Option.bind_eq_some_iff, Option.pure_def, Option.some.injEq] at e
    obtain ⟨d, e1, ds', e2, rfl⟩ := e
    have h1 := ih e1
    have h2 := datShapeAll H n ih e2
    simp only [PyData.canLayAll0, PyData.depthAll, Bool.and_eq_true]
    exact ⟨⟨h1.1, h2.1⟩, by omega⟩
theorem datShape (H : Hp) : ∀ (n : Nat) {x : V} {d : PyData}, datOf H n x = some d → d.canLay0 = true ∧ d.depth ≤ n + 1
  | n, .int i, d, e => by cases n <;> (simp [datOf] at e; subst e; simp [PyData.canLay0, PyData.depth])
  | n, .bool i, d, e => by cases n <;> (simp [datOf] at e; subst e; simp [PyData.canLay0, PyData.depth])
  | n, .none, d, e => by cases n <;> (simp [datOf] at e; subst e; simp [PyData.canLay0, PyData.depth])
  | n, .str i, d, e => by cases n <;> (simp only [datOf, Option.ite_none_right_eq_some, Option.some.injEq] at e; obtain ⟨h, rfl⟩ := e; simp [PyData.canLay0, PyData.depth, h])
  | 0, .tup xs, d, e => by simp [datOf] at e
  | n + 1, .tup xs, d, e => by
    simp only [datOf, Option.map_eq_some_iff] at e
    obtain ⟨ds, e, rfl⟩ := e
    have := datShapeAll H n (fun e => datShape H n e) e
    simp only [PyData.canLay0, PyData.depth]
    exact ⟨this.1, by omega⟩
  | 0, .lst k, d, e => by simp [datOf] at e
  | n + 1, .lst k, d, e => by
    simp only [datOf] at e
    split at e
    · simp only [Option.map_eq_some_iff] at e
      obtain ⟨ds, e, rfl⟩ := e
      have := datShapeAll H n (fun e => datShape H n e) e
      simp only [PyData.canLay0, PyData.depth]
      exact ⟨this.1, by omega⟩
    · cases e
  | n, .fn k, d, e => by cases n <;> simp [datOf] at e
  | n, .exc k, d, e => by cases n <;> simp [datOf] at e

theorem shaped_of_dat {H : Hp} {n : Nat} {x : V} {d : PyData} (e : datOf H n x = some d) (hn : n ≤ 60) : SeqAt.shaped d = true := by
  have := datShape H n e
  unfold SeqAt.shaped
  rw [Bool.and_eq_true]
  exact ⟨this.1, decide_eq_true (by omega)⟩

section
variable {prog : Program} {w : World} {A : Around} {E : Value → Shared → Prop} {s : Shared} {G : GV} {α : List Addr} {H : Hp} {Q : V → Hp → Prop}

theorem cmp_sound {op : COp} {u v : Value} {x y : V} (hA : AOk A) (R : HR G α s.heap H) (ru : Rep G α s.heap u x) (rv : Rep G α s.heap v y) (q : cmpWp op x y H Q) :
    wpAny (model prog w) A (compareOp (cmpOf op) u v) (Post G (Rep G) s α H Q) E s := by
  have hu := hA.units
  have eqs : ∀ Q', eqWp x y H Q' → ∃ da db as bs, Reads s.heap u da as ∧ Reads s.heap v db bs ∧ datOf H 4 x = some da ∧ datOf H 4 y = some db ∧ Q' (PyData.eqv da db) := fun Q' q => by
    obtain ⟨da, db, e1, e2, q⟩ := q
    obtain ⟨as, r1⟩ := datReads R 4 ru e1
    obtain ⟨bs, r2⟩ := datReads R 4 rv e2
    exact ⟨da, db, as, bs, r1, r2, e1, e2, q⟩
  have hE : eqWp x y H (fun b => Q (.bool b) H) → wpAny (model prog w) A (compareOp .Eq u v) (Post G (Rep G) s α H Q) E s := fun q => by
    obtain ⟨da, db, as, bs, r1, r2, e1, e2, q⟩ := eqs _ q
    exact SeqAt.compareEq_shaped r1 r2 (shaped_of_dat e1 (by decide)) (shaped_of_dat e2 (by decide)) (by omega) (Post.same' R (.bool _) q)
  have hN : eqWp x y H (fun b => Q (.bool (!b)) H) → wpAny (model prog w) A (compareOp .NotEq u v) (Post G (Rep G) s α H Q) E s := fun q => by
    obtain ⟨da, db, as, bs, r1, r2, e1, e2, q⟩ := eqs _ q
    exact SeqAt.compareNe_shaped r1 r2 (shaped_of_dat e1 (by decide)) (shaped_of_dat e2 (by decide)) (by omega) (Post.same' R (.bool _) q)
  cases op
  · cases x <;> first | exact False.elim q | skip
    cases y <;> first | exact False.elim q | skip
    obtain ⟨t, rfl⟩ := ru.int_inv
    obtain ⟨t', rfl⟩ := rv.int_inv
    exact lt_int (Post.same' R (.bool _) q)
  · cases x <;> first | exact False.elim q | skip
    cases y <;> first | exact False.elim q | skip
    obtain ⟨t, rfl⟩ := ru.int_inv
    obtain ⟨t', rfl⟩ := rv.int_inv
    exact le_int (Post.same' R (.bool _) q)
  · cases x <;> first | exact False.elim q | skip
    cases y <;> first | exact False.elim q | skip
    obtain ⟨t, rfl⟩ := ru.int_inv
    obtain ⟨t', rfl⟩ := rv.int_inv
    exact gt_int (Post.same' R (.bool _) q)
  · cases x <;> first | exact False.elim q | skip
    cases y <;> first | exact False.elim q | skip
    obtain ⟨t, rfl⟩ := ru.int_inv
    obtain ⟨t', rfl⟩ := rv.int_inv
    exact ge_int (Post.same' R (.bool _) q)
  · cases x <;> first | exact hE q | skip
    cases y <;> first | exact hE q | skip
    obtain ⟨t, rfl⟩ := ru.int_inv
    obtain ⟨t', rfl⟩ := rv.int_inv
    exact eq_int (Post.same' R (.bool _) q)
  · cases x <;> first | exact hN q | skip
    cases y <;> first | exact hN q | skip
    obtain ⟨t, rfl⟩ := ru.int_inv
    obtain ⟨t', rfl⟩ := rv.int_inv
    exact ne_int (Post.same' R (.bool _) q)
  · cases y <;> first | exact False.elim q | skip
    obtain ⟨da, ds, e1, e2, hn, q⟩ := q
    obtain ⟨as, r1⟩ := datReads R 3 ru e1
    obtain ⟨bs, r2⟩ := datReads R 4 rv e2
    refine in_list_dataH r2 r1 (shaped_of_dat e2 (by decide)) (shaped_of_dat e1 (by decide)) (by omega) hn (Post.same' R (.bool _) ?_)
    rw [← any_eqv_countIn da ds hn]; exact q
  · cases y <;> first | exact False.elim q | skip
    obtain ⟨da, ds, e1, e2, hn, q⟩ := q
    obtain ⟨as, r1⟩ := datReads R 3 ru e1
    obtain ⟨bs, r2⟩ := datReads R 4 rv e2
    refine notIn_list_dataH r2 r1 (shaped_of_dat e2 (by decide)) (shaped_of_dat e1 (by decide)) (by omega) hn (Post.same' R (.bool _) ?_)
    rw [any_eqv_countIn da ds hn] at q
    exact q
  · cases y <;> first | exact False.elim q | skip
    cases rv.none_inv
    refine is_none (Post.same' R (.bool _) ?_)
    cases ru <;> exact q

theorem truth_sound {u : Value} {x : V} {t : Bool} {Z : Bool → Shared → Prop} (R : HR G α s.heap H) (ru : Rep G α s.heap u x) (e : truthV H x = some t) (h : ∀ tk, Z t { s with toks := tk }) :
    wpAny (model prog w) A (truthy u) Z E s := by
  cases ru with
  | int i tk => simp [truthV] at e; subst e; exact truthy_int (h s.toks)
  | bool b => simp [truthV] at e; subst e; exact wpAny_truthy_bool (h s.toks)
  | none => simp [truthV] at e; subst e; exact fun _ _ _ => h s.toks
  | str z tk => simp [truthV] at e
  | tup ht q z =>
    simp only [truthV, Option.some.injEq] at e; subst e
    have hl := q.len
    refine truthy_tuple ht (by have : _ ≤ 1000000 := z; simp; omega) ?_
    rename_i vs xs
    have : (!vs.toArray.isEmpty) = !xs.isEmpty := by cases q <;> simp
    rw [this]; exact h _
  | lst ha =>
    simp only [truthV, Option.map_eq_some_iff] at e
    obtain ⟨xs, hx, rfl⟩ := e
    obtain ⟨vs, l, q, z, z'⟩ := R.getList ha hx
    refine wpAny_truthy_list l (by have : _ ≤ 1000000 := z'; simp; omega) ?_
    have : (!vs.toArray.isEmpty) = !xs.isEmpty := by cases q <;> simp
    rw [this]; exact h _
  | fn _ => simp [truthV] at e
end
end Mine

set_option autoImplicit false
set_option linter.unusedSimpArgs false
set_option linter.unusedVariables false
namespace Mine
open PySem PyProof.Rows PySem.Calls

noncomputable def SC (X : SX) (c : MC) (pe : PE) (e : Expr) : Prop :=
  ∀ (env : Env) (s : Shared) (α : List Addr) (ρ : Loc) (H : Hp) (Q : Bool → Hp → Prop) (E : Value → Shared → Prop), EnvOk c env → GF X.G c.g X.DT s.heap → HR X.G α s.heap H → FI X.G c env α s.heap ρ →
    wpE X.sub X.Φ pe ρ H (fun v H' => ifSome (truthV H' v) fun t => Q t H') → wpAny (model X.prog X.w) X.A (isTrue e env (eval e env)) (Post X.G (fun _ _ a b => a = b) s α H Q) E s

noncomputable def PlainTest (e : Expr) : Prop := ∀ (env : Env) (whole : Sem Value), isTrue e env whole = (do let v ← whole; standAt e.pos; holding [v] (truthy v))

section
variable {X : SX} {c : MC}

theorem sc_of_se {pe : PE} {e : Expr} (h : SE X c pe e) (he : PlainTest e) : SC X c pe e := fun env s α ρ H Q E O T R F q => by
  refine wpAny_isTrue_value (wpAny_mono (h env s α ρ H _ E O T R F q) (fun v s₁ p => ?_) fun _ _ x => x) (he env _)
  obtain ⟨h₁, tk₁, β, K, d, rfl, k, f, R', r, q⟩ := p
  obtain ⟨t, e, q⟩ := ifSome.get q
  exact truth_sound (s := { s with heap := h₁, toks := tk₁ }) R' r e fun tk => ⟨h₁, tk, β, K, t, rfl, k, f, R', rfl, q⟩

theorem se_bin {op : BOp} {a b : PE} {l r : Expr} {pos : Pos} (h1 : SE X c a l) (h2 : SE X c b r) : SE X c (.bin op a b) (.BinOp l (opOf op) r pos) := fun env s α ρ H Q E O T R F q => by
  refine wpAny_BinOp (two h1 h2 O T R F (Q := fun x y H2 => binWp op x y H2 Q) q fun h' tk β K u v x y k f R' ru rv q' => ?_)
  exact wpAny_mono (binOp_sound (s := { s with heap := h', toks := tk }) R' ru rv q') (fun _ _ p => p.trans k f) fun _ _ x => x

theorem se_neg {a : PE} {l : Expr} {pos : Pos} (h1 : SE X c a l) : SE X c (.neg a) (.UnaryOp .USub l pos) := fun env s α ρ H Q E O T R F q => by
  refine wpAny_UnaryOp (wpAny_mono (h1 env s α ρ H _ E O T R F q) (fun v s₁ p => ?_) fun _ _ x => x)
  refine p.then fun h₁ tk₁ β K d k f R' r q' => ?_
  cases d <;> first | exact q'.elim | skip
  cases r
  exact neg_int (Post.same R' (.int _ _) q' _)

theorem se_nt {a : PE} {l : Expr} {pos : Pos} (h1 : SE X c a l) : SE X c (.nt a) (.UnaryOp .Not l pos) := fun env s α ρ H Q E O T R F q => by
  refine wpAny_UnaryOp (wpAny_mono (h1 env s α ρ H _ E O T R F q) (fun v s₁ p => ?_) fun _ _ x => x)
  refine p.then fun h₁ tk₁ β K d k f R' r q' => ?_
  obtain ⟨t, e, q'⟩ := ifSome.get q'
  exact not_value (truth_sound (s := { s with heap := h₁, toks := tk₁ }) R' r e fun tk => Post.same (s := { s with heap := h₁, toks := tk₁ }) R' (.bool _) q' tk)
theorem sc_nt {a : PE} {l : Expr} {pos : Pos} (h1 : SC X c a l) : SC X c (.nt a) (.UnaryOp .Not l pos) := fun env s α ρ H Q E O T R F q => by
  refine wpAny_isTrue_Not (wpAny_mono (h1 env s α ρ H (fun t => Q (!t)) E O T R F ?_) (fun v s₁ p => ?_) fun _ _ x => x)
  · exact q
  · obtain ⟨h₁, tk₁, β, K, d, rfl, k, f, R', rfl, q'⟩ := p
    exact ⟨h₁, tk₁, β, K, _, rfl, k, f, R', rfl, q'⟩

theorem se_cmp {op : COp} {a b : PE} {l r : Expr} {pos : Pos} (hA : AOk X.A) (hm : behindInMarks (cmpOf op) r = false) (h1 : SE X c a l) (h2 : SE X c b r) : SE X c (.cmp op a b) (.Compare l [cmpOf op] [r] pos) := fun env s α ρ H Q E O T R F q => by
  refine wpAny_Compare1 (two h1 h2 O T R F (Q := fun x y H2 => cmpWp op x y H2 Q) q fun h' tk β K u v x y k f R' ru rv q' => ?_) hm
  exact wpAny_mono (cmp_sound (s := { s with heap := h', toks := tk }) hA R' ru rv q') (fun _ _ p => p.trans k f) fun _ _ x => x
theorem sc_cmp {op : COp} {a b : PE} {l r : Expr} {pos : Pos} (hA : AOk X.A) (hm : behindInMarks (cmpOf op) r = false) (h1 : SE X c a l) (h2 : SE X c b r) : SC X c (.cmp op a b) (.Compare l [cmpOf op] [r] pos) := fun env s α ρ H Q E O T R F q => by
  refine wpAny_isTrue_Compare1 (two h1 h2 O T R F (Q := fun x y H2 => cmpWp op x y H2 _) q fun h' tk β K u v x y k f R' ru rv q' => ?_) hm
  refine wpAny_mono (cmp_sound (s := { s with heap := h', toks := tk }) hA R' ru rv q') (fun v s₁ p => ?_) fun _ _ x => x
  obtain ⟨h₂, tk₂, β₂, K₂, d, rfl, k₂, f₂, R₂, r₂, q₂⟩ := p
  obtain ⟨t, e, q₂⟩ := ifSome.get q₂
  refine truth_sound (s := { s with heap := h₂, toks := tk₂ }) R₂ r₂ e fun tk' => ?_
  exact Post.trans (tk₁ := tk) k f ⟨h₂, tk', β₂, K₂, t, rfl, k₂, f₂, R₂, rfl, q₂⟩

/-! and, or -/
noncomputable def SAll (X : SX) (c : MC) (b : Bool) (ps : PEs) (es : List Expr) : Prop :=
  ∀ (env : Env) (s : Shared) (α : List Addr) (ρ : Loc) (H : Hp) (Q : V → Hp → Prop) (E : Value → Shared → Prop) (pos : Pos), EnvOk c env → GF X.G c.g X.DT s.heap → HR X.G α s.heap H → FI X.G c env α s.heap ρ →
    wpAll X.sub X.Φ b ps ρ H Q → wpAny (model X.prog X.w) X.A (boolOp pos (if b then .And else .Or) (evalEach es env)) (Post X.G (Rep X.G) s α H Q) E s
noncomputable def SAllC (X : SX) (c : MC) (b : Bool) (ps : PEs) (es : List Expr) : Prop :=
  ∀ (env : Env) (s : Shared) (α : List Addr) (ρ : Loc) (H : Hp) (Q : Bool → Hp → Prop) (E : Value → Shared → Prop), EnvOk c env → GF X.G c.g X.DT s.heap → HR X.G α s.heap H → FI X.G c env α s.heap ρ →
    wpAll X.sub X.Φ b ps ρ H (fun v H' => ifSome (truthV H' v) fun t => Q t H') → wpAny (model X.prog X.w) X.A (allTrue (if b then .And else .Or) es env) (Post X.G (fun _ _ a b => a = b) s α H Q) E s

theorem sall_nil {b : Bool} : SAll X c b .nil [] := fun env s α ρ H Q E pos O T R F q => (by simp [wpAll] at q)
theorem sallc_nil {b : Bool} : SAllC X c b .nil [] := fun env s α ρ H Q E O T R F q => (by simp [wpAll] at q)
theorem sall_one {b : Bool} {a : PE} {e : Expr} (h : SE X c a e) : SAll X c b (.cons a .nil) [e] := fun env s α ρ H Q E pos O T R F q => by
  simp only [wpAll] at q
  cases b <;> exact h env s α ρ H Q E O T R F q
theorem sall_cons {b : Bool} {a a2 : PE} {r : PEs} {e e2 : Expr} {es : List Expr} (h1 : SE X c a e) (h2 : SAll X c b (.cons a2 r) (e2 :: es)) : SAll X c b (.cons a (.cons a2 r)) (e :: e2 :: es) := fun env s α ρ H Q E pos O T R F q => by
  simp only [wpAll] at q
  have key : wpAny (model X.prog X.w) X.A (eval e env >>= fun v => do
      standAt pos
      let t ← holding [v] (truthy v)
      match (if b then BoolOp.And else BoolOp.Or), t with
      | .And, false | .Or, true => pure v
      | _, _ => boolOp pos (if b then .And else .Or) (evalEach (e2 :: es) env)) (Post X.G (Rep X.G) s α H Q) E s := by
    refine wpAny_bind (wpAny_mono (h1 env s α ρ H _ E O T R F q) (fun v s₁ p => ?_) fun _ _ x => x)
    refine p.then fun h₁ tk₁ β K d k f R' rr q' => ?_
    obtain ⟨t, e, q'⟩ := ifSome.get q'
    refine wpAny_bind (wpAny_standAt (wpAny_bind (wpAny_holding (truth_sound (s := { s with heap := h₁, toks := tk₁ }) R' rr e fun tk => ?_))))
    have step : wpAny (model X.prog X.w) X.A (boolOp pos (if b then .And else .Or) (evalEach (e2 :: es) env)) (Post X.G (Rep X.G) { s with heap := h₁, toks := tk } (α ++ β) (H ++ K) Q) E { s with heap := h₁, toks := tk } →
        wpAny (model X.prog X.w) X.A (boolOp pos (if b then .And else .Or) (evalEach (e2 :: es) env)) (Post X.G (Rep X.G) { s with heap := h₁, toks := tk₁ } (α ++ β) (H ++ K) Q) E { s with heap := h₁, toks := tk } := fun h =>
      wpAny_mono h (fun _ _ ⟨h', tk', β', K', d', e', a', b', c', r', q''⟩ => ⟨h', tk', β', K', d', e', a', b', c', r', q''⟩) fun _ _ x => x
    cases b <;> cases t <;> simp only [Bool.false_eq_true, Bool.true_eq_false, if_true, if_false] at q' ⊢
    · exact step (h2 env { s with heap := h₁, toks := tk } (α ++ β) ρ (H ++ K) Q E pos O (T.keeps k) R' (F.up k) q')
    · exact wpAny_pure (Post.same (s := { s with heap := h₁, toks := tk₁ }) R' rr q' tk)
    · exact wpAny_pure (Post.same (s := { s with heap := h₁, toks := tk₁ }) R' rr q' tk)
    · exact step (h2 env { s with heap := h₁, toks := tk } (α ++ β) ρ (H ++ K) Q E pos O (T.keeps k) R' (F.up k) q')
  exact key
theorem sallc_one {b : Bool} {a : PE} {e : Expr} (h : SC X c a e) : SAllC X c b (.cons a .nil) [e] := fun env s α ρ H Q E O T R F q => by
  simp only [wpAll] at q
  cases b
  · refine wpAny_allTrue_Or_cons (wpAny_mono (h env s α ρ H Q E O T R F q) (fun v s₁ p => ?_) fun _ _ x => x)
    cases v
    · exact wpAny_allTrue_Or_nil p
    · exact p
  · refine wpAny_allTrue_And_cons (wpAny_mono (h env s α ρ H Q E O T R F q) (fun v s₁ p => ?_) fun _ _ x => x)
    cases v
    · exact p
    · exact wpAny_allTrue_And_nil p
theorem sallc_cons {b : Bool} {a a2 : PE} {r : PEs} {e e2 : Expr} {es : List Expr} (h1 : SC X c a e) (h2 : SAllC X c b (.cons a2 r) (e2 :: es)) : SAllC X c b (.cons a (.cons a2 r)) (e :: e2 :: es) := fun env s α ρ H Q E O T R F q => by
  simp only [wpAll] at q
  have e0 : (fun (v : V) (H1 : Hp) => ifSome (truthV H1 v) fun t => if t = b then wpAll X.sub X.Φ b (.cons a2 r) ρ H1 (fun v H' => ifSome (truthV H' v) fun t => Q t H') else ifSome (truthV H1 v) fun t => Q t H1) =
      fun v H1 => ifSome (truthV H1 v) fun t => if t = b then wpAll X.sub X.Φ b (.cons a2 r) ρ H1 (fun v H' => ifSome (truthV H' v) fun t => Q t H') else Q t H1 := by
    funext v H1
    generalize truthV H1 v = o
    cases o <;> rfl
  rw [e0] at q
  have h := h1 env s α ρ H _ E O T R F q
  cases b
  · refine wpAny_allTrue_Or_cons (wpAny_mono h (fun v s₁ p => ?_) fun _ _ x => x)
    cases v
    · simp only [Bool.false_eq_true, if_false]
      refine p.then fun h₁ tk₁ β K d k f R' rr q' => ?_
      subst rr
      simp only [if_true] at q'
      exact h2 env { s with heap := h₁, toks := tk₁ } (α ++ β) ρ (H ++ K) Q E O (T.keeps k) R' (F.up k) q'
    · obtain ⟨h', tk', β', K', d', e', k', f', R', rfl, q'⟩ := p
      exact ⟨h', tk', β', K', _, e', k', f', R', rfl, q'⟩
  · refine wpAny_allTrue_And_cons (wpAny_mono h (fun v s₁ p => ?_) fun _ _ x => x)
    cases v
    · obtain ⟨h', tk', β', K', d', e', k', f', R', rfl, q'⟩ := p
      exact ⟨h', tk', β', K', _, e', k', f', R', rfl, q'⟩
    · simp only [if_true]
      refine p.then fun h₁ tk₁ β K d k f R' rr q' => ?_
      subst rr
      simp only [if_true] at q'
      exact h2 env { s with heap := h₁, toks := tk₁ } (α ++ β) ρ (H ++ K) Q E O (T.keeps k) R' (F.up k) q'
theorem se_and {ps : PEs} {es : List Expr} {pos : Pos} (h : SAll X c true ps es) : SE X c (.and ps) (.BoolOp .And es pos) := fun env s α ρ H Q E O T R F q => by
  rw [arm_eval_BoolOp]; exact h env s α ρ H Q E pos O T R F (by simpa only [qE1, qE2, qE3, qE4, qE5, qE6, qE7, qE8, qE9, qE10, qE11, qE12, qE13, qE14, qE15, qE16, qE17, qE18, qE19, qE20, qE21, qE22] using q)
theorem se_or {ps : PEs} {es : List Expr} {pos : Pos} (h : SAll X c false ps es) : SE X c (.or ps) (.BoolOp .Or es pos) := fun env s α ρ H Q E O T R F q => by
  rw [arm_eval_BoolOp]; exact h env s α ρ H Q E pos O T R F (by simpa only [qE1, qE2, qE3, qE4, qE5, qE6, qE7, qE8, qE9, qE10, qE11, qE12, qE13, qE14, qE15, qE16, qE17, qE18, qE19, qE20, qE21, qE22] using q)
theorem sc_and {ps : PEs} {es : List Expr} {pos : Pos} (h : SAllC X c true ps es) : SC X c (.and ps) (.BoolOp .And es pos) := fun env s α ρ H Q E O T R F q =>
  wpAny_isTrue_BoolOp (h env s α ρ H Q E O T R F (by simpa only [qE1, qE2, qE3, qE4, qE5, qE6, qE7, qE8, qE9, qE10, qE11, qE12, qE13, qE14, qE15, qE16, qE17, qE18, qE19, qE20, qE21, qE22] using q))
theorem sc_or {ps : PEs} {es : List Expr} {pos : Pos} (h : SAllC X c false ps es) : SC X c (.or ps) (.BoolOp .Or es pos) := fun env s α ρ H Q E O T R F q =>
  wpAny_isTrue_BoolOp (h env s α ρ H Q E O T R F (by simpa only [qE1, qE2, qE3, qE4, qE5, qE6, qE7, qE8, qE9, qE10, qE11, qE12, qE13, qE14, qE15, qE16, qE17, qE18, qE19, qE20, qE21, qE22] using q))
end
end Mine

set_option autoImplicit false
set_option linter.unusedSimpArgs false
set_option linter.unusedVariables false
namespace Mine
open PySem PyProof.Rows PySem.Calls

noncomputable def notStar (e : Expr) : Bool := match e with | .Starred .. => false | _ => true
noncomputable def noStar (es : List Expr) : Bool := es.all notStar
theorem starEach_cons {e : Expr} {es : List Expr} {env : Env} (h : notStar e = true) : starEach (e :: es) env = (false, eval e env) :: starEach es env := by
  cases e <;> first | rfl | cases h
theorem star_any {pos : Pos} {env : Env} : ∀ {es : List Expr}, noStar es = true → (backTo pos (starEach es env)).any (·.1) = false
  | [], _ => rfl
  | e :: es, h => by
    simp only [noStar, List.all_cons, Bool.and_eq_true] at h
    rw [starEach_cons h.1]
    show (false || (backTo pos (starEach es env)).any (·.1)) = false
    rw [star_any h.2]; rfl

section
variable {X : SX} {c : MC}

/-- a call of an own def -/
theorem call_fn {f : Nat} {x : Str} {ps : PEs} {e : Expr} {es : List Expr} {pos : Pos} (hΦ : SCall X.prog X.w X.G c.g X.DT X.A X.Φ) (hf : c.g.fns[f]? = some x) (hn : notStar e = true) (h : SEs X c ps (e :: es))
    (env : Env) (s : Shared) (α : List Addr) (ρ : Loc) (H : Hp) (Q : V → Hp → Prop) (E : Value → Shared → Prop) (O : EnvOk c env) (T : GF X.G c.g X.DT s.heap) (R : HR X.G α s.heap H) (F : FI X.G c env α s.heap ρ)
    (q : wpEs X.sub X.Φ ps ρ H fun vs H1 => X.Φ f vs H1 Q fun _ _ => False) :
    wpAny (model X.prog X.w) X.A (callWith pos (.ref (X.G.fa f)) [] (backTo pos (starEach (e :: es) env)) []) (Post X.G (Rep X.G) s α H Q) E s := by
  obtain ⟨_, d, o, pm, cd, doc, _, _, ho, hd, _⟩ := T.fn f x hf
  refine callWith_def hd (wpAny_mono (h env s α ρ H _ E pos O T R F q) (fun vs s₁ p => ?_) fun _ _ y => y) (starEach_cons hn)
  obtain ⟨h₁, tk₁, β, K, ds, rfl, k, f', R', r, q'⟩ := p
  refine ⟨k _ _ ho, ?_⟩
  exact wpAny_mono (hΦ f x ds (H ++ K) Q hf q' { s with heap := h₁, toks := tk₁ } (α ++ β) vs E (T.keeps k) R' r.1) (fun _ _ p => p.trans k f') fun _ _ y => y

theorem se_call {f : Nat} {x : Str} {ps : PEs} {e : Expr} {es : List Expr} {p pos : Pos} (hΦ : SCall X.prog X.w X.G c.g X.DT X.A X.Φ) (hf : c.g.fns[f]? = some x) (hx : c.isGlob x = true) (hn : notStar e = true) (h : SEs X c ps (e :: es)) :
    SE X c (.call f ps) (.Call (.Name x p) (e :: es) [] pos) := fun env s α ρ H Q E O T R F q =>
  Call_ (load_glob O hx T.g (T.fn f x hf).1 (call_fn hΦ hf hn h env s α ρ H Q E O T R F (by simpa only [qE1, qE2, qE3, qE4, qE5, qE6, qE7, qE8, qE9, qE10, qE11, qE12, qE13, qE14, qE15, qE16, qE17, qE18, qE19, qE20, qE21, qE22] using q)))

theorem bootAbs : bootBuiltins "abs" = some (.builtin "abs") := by boot_by_name
theorem bootLen : bootBuiltins "len" = some (.builtin "len") := by boot_by_name
theorem bootInt : bootBuiltins "int" = some (.type "int") := by boot_by_name
theorem bootList : bootBuiltins "list" = some (.type "list") := by boot_by_name
theorem bootTuple : bootBuiltins "tuple" = some (.type "tuple") := by boot_by_name
theorem bootMin : bootBuiltins "min" = some (.builtin "min") := by boot_by_name
theorem bootIsi : bootBuiltins "isinstance" = some (.builtin "isinstance") := by boot_by_name
theorem bootRev : bootBuiltins "reversed" = some (.type "reversed") := by boot_by_name
theorem bootRange : bootBuiltins "range" = some (.type "range") := by boot_by_name
theorem bootBool : bootBuiltins "bool" = some (.type "bool") := by boot_by_name

/-- a built-in's name -/
theorem load_b {x : Str} {v : Value} {pos : Pos} {env : Env} {s : Shared} {Q : Value → Shared → Prop} {E : Value → Shared → Prop} (hb : bootBuiltins x = some v) (hm : x ∈ bltNames) (hx : c.isGlob x = true) (O : EnvOk c env) (T : GF X.G c.g X.DT s.heap) (h : Q v s) :
    wpAny (model X.prog X.w) X.A (eval (.Name x pos) env) Q E s :=
  load_blt O hx T.g (T.blt x hm).1 T.b ((T.blt x hm).2.trans hb) h

/-- a call of a built-in function -/
theorem call_b {x : Str} {id : String} {ps : PEs} {e : Expr} {es : List Expr} {p pos : Pos} {env : Env} {s : Shared} {α : List Addr} {ρ : Loc} {H : Hp} {Q : V → Hp → Prop} {Q1 : List V → Hp → Prop} {E : Value → Shared → Prop}
    (hb : bootBuiltins x = some (.builtin id)) (hm : x ∈ bltNames) (hx : c.isGlob x = true) (hn : noStar (e :: es) = true) (h : SEs X c ps (e :: es)) (O : EnvOk c env) (T : GF X.G c.g X.DT s.heap) (R : HR X.G α s.heap H) (F : FI X.G c env α s.heap ρ)
    (q : wpEs X.sub X.Φ ps ρ H Q1)
    (hz : ∀ h' tk β K vs ds, KeepsH s.heap h' → HR X.G (α ++ β) h' (H ++ K) → Reps X.G (α ++ β) h' vs ds → Q1 ds (H ++ K) →
      wpAny (model X.prog X.w) X.A (call (.builtin id) vs) (Post X.G (Rep X.G) { s with heap := h', toks := tk } (α ++ β) (H ++ K) Q) E { s with heap := h', toks := tk }) :
    wpAny (model X.prog X.w) X.A (eval (.Call (.Name x p) (e :: es) [] pos) env) (Post X.G (Rep X.G) s α H Q) E s := by
  simp only [noStar, List.all_cons, Bool.and_eq_true] at hn
  refine Call_ (load_b hb hm hx O T (callWith_builtin1 (wpAny_mono (h env s α ρ H _ E pos O T R F q) (fun vs s₁ p => ?_) fun _ _ y => y) (starEach_cons hn.1) (star_any hn.2)))
  exact p.then fun h₁ tk₁ β K d k f R' r q' => hz h₁ tk₁ β K vs d k R' r.1 q'
theorem call_t {x : Str} {id : String} {ps : PEs} {e : Expr} {es : List Expr} {p pos : Pos} {env : Env} {s : Shared} {α : List Addr} {ρ : Loc} {H : Hp} {Q : V → Hp → Prop} {Q1 : List V → Hp → Prop} {E : Value → Shared → Prop}
    (hb : bootBuiltins x = some (.type id)) (hm : x ∈ bltNames) (hx : c.isGlob x = true) (hn : noStar (e :: es) = true) (h : SEs X c ps (e :: es)) (O : EnvOk c env) (T : GF X.G c.g X.DT s.heap) (R : HR X.G α s.heap H) (F : FI X.G c env α s.heap ρ)
    (q : wpEs X.sub X.Φ ps ρ H Q1)
    (hz : ∀ h' tk β K vs ds, KeepsH s.heap h' → HR X.G (α ++ β) h' (H ++ K) → Reps X.G (α ++ β) h' vs ds → Q1 ds (H ++ K) →
      wpAny (model X.prog X.w) X.A (call (.type id) vs) (Post X.G (Rep X.G) { s with heap := h', toks := tk } (α ++ β) (H ++ K) Q) E { s with heap := h', toks := tk }) :
    wpAny (model X.prog X.w) X.A (eval (.Call (.Name x p) (e :: es) [] pos) env) (Post X.G (Rep X.G) s α H Q) E s := by
  simp only [noStar, List.all_cons, Bool.and_eq_true] at hn
  refine Call_ (load_b hb hm hx O T (callWith_type1 (wpAny_mono (h env s α ρ H _ E pos O T R F q) (fun vs s₁ p => ?_) fun _ _ y => y) (starEach_cons hn.1) (star_any hn.2)))
  exact p.then fun h₁ tk₁ β K d k f R' r q' => hz h₁ tk₁ β K vs d k R' r.1 q'
end
end Mine

set_option autoImplicit false
namespace Mine
open PySem PyProof PyProof.Rows

section
variable {prog : Program} {w : World} {A : Around} {E : Value → Shared → Prop} {s : Shared}

theorem adjust_front (n : Nat) (hn : 1 ≤ n) : Builtin.Slice.sliceAdjust none (some (-1)) 1 (n : Int) = (0, (n : Int) - 1) := by
  unfold Builtin.Slice.sliceAdjust
  have h1 : ¬ ((1 : Int) < 0) := by omega
  have h2 : (-1 : Int) < 0 := by omega
  simp only [h1, h2, if_false, if_true]
  congr 1
  omega
theorem places_front (n : Nat) (hn : 1 ≤ n) : Builtin.Slice.slicePlaces 0 ((n : Int) - 1) 1 = n - 1 := by
  unfold Builtin.Slice.slicePlaces
  have h1 : (1 : Int) > 0 := by omega
  simp only [h1, if_true, Int.ediv_one]
  split <;> omega

theorem sliceApplied_front {sl : Addr} {n : Nat} {u : Tok} {Q : Int × Int × Nat → Shared → Prop} (hs : s.heap.IsSliceOf sl .none (.int (-1) u) .none) (hn : 1 ≤ n) (h : Q (0, 1, n - 1) s) :
    wpAny (model prog w) A (Builtin.Slice.sliceApplied (.ref sl) (pure (n : Int))) Q E s := by
  obtain ⟨os, hos, hcs, hds⟩ := id hs
  unfold Builtin.Slice.sliceApplied Builtin.Slice.sliceFields
  refine wpAny_bind (wpAny_bind (wpAny_field hos hds (x := .none) rfl (wpAny_bind (wpAny_field hos hds (x := .int (-1) u) rfl (wpAny_bind (wpAny_field hos hds (x := .none) rfl (wpAny_pure ?_)))))))
  refine wpAny_bind (slicePart_none ?_)
  show wpAny _ _ (if ((1 : Int) == 0) = true then _ else _) _ _ s
  rw [if_neg (by decide)]
  refine wpAny_bind (slicePart_none (wpAny_bind (slicePart_int (wpAny_bind (wpAny_pure ?_)))))
  show wpAny _ _ (match Builtin.Slice.sliceAdjust none (some (-1)) 1 (n : Int) with | (lo, hi) => pure (lo, (1 : Int), Builtin.Slice.slicePlaces lo hi 1)) _ _ s
  rw [adjust_front n hn]
  show wpAny _ _ (pure ((0 : Int), (1 : Int), Builtin.Slice.slicePlaces 0 ((n : Int) - 1) 1)) _ _ s
  rw [places_front n hn]
  exact wpAny_pure h

theorem pick_front (xs : Array Value) : ((List.range (xs.size - 1)).filterMap fun (k : Nat) => xs[((0 : Int) + (k : Int) * 1).toNat]?).toArray = xs.toList.dropLast.toArray := by
  have e : (fun (k : Nat) => xs[((0 : Int) + (k : Int) * 1).toNat]?) = fun k => xs[0 + k]? := by
    funext k
    have : ((0 : Int) + (k : Int) * 1).toNat = 0 + k := by omega
    rw [this]
  rw [e]
  have := pick_run xs 0 (xs.size - 1)
  rw [List.filterMap_map] at this
  have e2 : ((fun x => xs[x]?) ∘ fun x => 0 + x) = fun k => xs[0 + k]? := rfl
  rw [e2] at this
  rw [this, List.dropLast_eq_take]
  rfl

theorem getItem_tuple_front {t sl : Addr} {items : Array Value} {u : Tok} {Q : Value → Shared → Prop} (ht : IsTup s.heap t items) (hs : s.heap.IsSliceOf sl .none (.int (-1) u) .none) (h1 : 1 ≤ items.size)
    (h : Q (.ref s.heap.objs.size) { s with heap := s.heap.push { cls := .type "tuple", data := .seq items.toList.dropLast.toArray } })
    (hsz : items.size ≤ sizeLine) : wpAny (model prog w) A (getItem (.ref t) (.ref sl)) Q E s := by
  have hdrop : sizeOk (.seq items.toList.dropLast.toArray) := by
    show items.toList.dropLast.toArray.size ≤ sizeLine
    rw [List.size_toArray, List.length_dropLast, Array.length_toList]
    omega
  obtain ⟨os, hos, hcs, hds⟩ := id hs
  have hTs : s.TypeIs (.ref sl) "slice" := ⟨os, hos, hcs⟩
  unfold getItem
  try with_reducible refine wpAny_holding ?_
  first | refine wpAny_bind (wpAny_pure ?_) | skip
  refine wpAny_bind (wpAny_sequenceKey ht.typeIs (by decide) ?_)
  refine wpAny_bind (wpAny_callSpecial?_slot (name := Str.ofString "__getitem__") ht.typeIs slot_tuple_getitem
    (wpAny_call_entry slot_tuple_getitem ht.typeIs entry_tuple_getitem ?_ (args_tuple_getitem _ _)))
  show wpAny _ _ (Builtin.Tuple.tupleItemsOf (.ref t) >>= _) _ _ s
  refine wpAny_bind (tupleItemsOf_ ht ?_)
  refine wpAny_bind (wpAny_typeOf hTs ?_)
  rw [if_pos (by decide)]
  refine wpAny_bind (sliceApplied_front hs h1 ?_)
  have hno : ¬ (((0 : Int) == 0 && (1 : Int) == 1 && (items.size - 1) == items.size) = true) := by
    have : ((items.size - 1) == items.size) = false := by rw [beq_eq_false_iff_ne]; omega
    rw [this]; simp
  show wpAny _ _ (if ((0 : Int) == 0 && (1 : Int) == 1 && (items.size - 1) == items.size) = true then _ else _) _ _ s
  rw [if_neg hno, pick_front items]
  first
    | exact wpAny_bind (m := Builtin.Tuple.tupleExact _) (wpAny_newObj_type (wpAny_pure ⟨_, rfl, wpAny_pure h⟩) hdrop)
    | exact wpAny_bind (m := Builtin.Tuple.tupleExact _) (wpAny_newObj_type (wpAny_bind (wpAny_pure (wpAny_pure ⟨_, rfl, wpAny_pure h⟩))) hdrop)
    | exact wpAny_bind (wpAny_bind (m := Builtin.Tuple.tupleExact _) (wpAny_newObj_type (wpAny_pure (wpAny_pure ⟨_, rfl, wpAny_pure h⟩)) hdrop))
    | exact wpAny_bind (wpAny_bind (m := Builtin.Tuple.tupleExact _) (wpAny_newObj_type (wpAny_pure ⟨_, rfl, wpAny_pure h⟩) hdrop))
end
end Mine

set_option autoImplicit false
set_option linter.unusedSimpArgs false
set_option linter.unusedVariables false
namespace Mine
open PySem PyProof.Rows PySem.Calls

section
variable {prog : Program} {w : World} {A : Around} {E : Value → Shared → Prop} {s : Shared} {G : GV} {α : List Addr} {H : Hp} {Q : V → Hp → Prop}

/-- list(x) -/
theorem list_of {v : Value} {d : V} {xs : List V} (R : HR G α s.heap H) (r : Rep G α s.heap v d) (e : items H d = some xs) (q : Q (.lst H.length) (H ++ [xs])) :
    wpAny (model prog w) A (call (.type "list") [v]) (Post G (Rep G) s α H Q) E s := by
  obtain ⟨a, vs, rfl, rs, z, z', hk⟩ := seqOf R r e
  have hsz : vs.toArray.size ≤ sizeLine := by rw [List.size_toArray]; exact Nat.le_trans z' lim_le
  have go : ∀ h' c', KeepsH s.heap h' → h'.get? s.heap.objs.size = some { cls := .type "list", dict := none, data := .seq vs.toArray c', slots := #[] } → Post G (Rep G) s α H Q (.ref s.heap.objs.size) { s with heap := h' } := fun h' c' k hg =>
    Post.newLst R k (rs.mono (fun _ _ e => e) (.of k)) z q (size_none _) ⟨c', hg⟩ s.toks
  rcases hk with ⟨⟨o, ho, hc, n, hd⟩, _⟩ | ⟨⟨o, ho, hc, n, hd⟩, _⟩
  · exact call_list_seq a (.inr rfl) ho hc hd go hsz
  · exact call_list_seq a (.inl rfl) ho hc hd go hsz
/-- tuple(x) -/
theorem tuple_of {v : Value} {d : V} {xs : List V} (R : HR G α s.heap H) (r : Rep G α s.heap v d) (e : items H d = some xs) (q : Q (.tup xs) H) :
    wpAny (model prog w) A (call (.type "tuple") [v]) (Post G (Rep G) s α H Q) E s := by
  obtain ⟨a, vs, rfl, rs, z, z', hk⟩ := seqOf R r e
  have hsz : vs.toArray.size ≤ sizeLine := by rw [List.size_toArray]; exact Nat.le_trans z' lim_le
  rcases hk with ⟨ht, ys, rfl⟩ | ⟨hl, n, rfl⟩
  · cases e
    exact call_tuple_tup ht (Post.same' R r q)
  · refine call_tuple_list hl (fun h' k => ?_) hsz
    have k2 : KeepsH s.heap (h'.push { cls := .type "tuple", data := .seq vs.toArray }) := KeepsH.trans k (keeps_push _ _)
    refine ⟨_, s.toks, [], [], .tup xs, rfl, k2, by simp, by simpa using R.keeps k2, ?_, by simpa using q⟩
    exact Rep.tup (vs := vs) ⟨_, Heap.get?_push_size _ rfl, rfl, _, rfl⟩ (rs.up k2) z
/-- len(x) -/
theorem len_of {v : Value} {d : V} {xs : List V} (R : HR G α s.heap H) (r : Rep G α s.heap v d) (e : items H d = some xs) (q : Q (.int xs.length) H) :
    wpAny (model prog w) A (call (.builtin "len") [v]) (Post G (Rep G) s α H Q) E s := by
  obtain ⟨a, vs, rfl, rs, z, z', hk⟩ := seqOf R r e
  have hz : (vs.toArray.size : Int) < 2 ^ 63 := by have : vs.length ≤ 1000000 := z'; simp; omega
  have hl : ((vs.toArray.size : Nat) : Int) = xs.length := by simp [rs.len]
  rcases hk with ⟨ht, _⟩ | ⟨hl', _⟩
  · exact len_tuple ht hz (by rw [hl]; exact Post.same R (.int _ _) q _)
  · exact len_list hl' hz (by rw [hl]; exact Post.same R (.int _ _) q _)

theorem bi_sound {b : Bi} {vs : List Value} {ds : List V} (hA : AOk A) (R : HR G α s.heap H) (r : Reps G α s.heap vs ds) (q : biWp b ds H Q) :
    match b with
    | .abs => wpAny (model prog w) A (call (.builtin "abs") vs) (Post G (Rep G) s α H Q) E s
    | .len => wpAny (model prog w) A (call (.builtin "len") vs) (Post G (Rep G) s α H Q) E s
    | .int => wpAny (model prog w) A (call (.type "int") vs) (Post G (Rep G) s α H Q) E s
    | .list => wpAny (model prog w) A (call (.type "list") vs) (Post G (Rep G) s α H Q) E s
    | .tuple => wpAny (model prog w) A (call (.type "tuple") vs) (Post G (Rep G) s α H Q) E s
    | .min => wpAny (model prog w) A (call (.builtin "min") vs) (Post G (Rep G) s α H Q) E s
    | .listrev => True := by
  cases b
  · rcases ds with _ | ⟨d, _ | ⟨_, _⟩⟩ <;> first | exact False.elim q | skip
    · cases d <;> first | exact False.elim q | skip
      obtain ⟨v, rfl, a⟩ := r.one_inv
      obtain ⟨t, rfl⟩ := a.int_inv
      exact call_abs_int fun u tk => Post.same R (.int _ _) q tk
    · cases d <;> exact False.elim q
  · rcases ds with _ | ⟨d, _ | ⟨_, _⟩⟩ <;> first | exact False.elim q | skip
    obtain ⟨v, rfl, a⟩ := r.one_inv
    obtain ⟨xs, e, q⟩ := ifSome.get q; exact len_of R a e q
  · rcases ds with _ | ⟨d, _ | ⟨_, _⟩⟩ <;> first | exact False.elim q | skip
    · cases d <;> first | exact False.elim q | skip
      obtain ⟨v, rfl, a⟩ := r.one_inv
      cases a.bool_inv
      exact call_int_bool (Post.same R (.int _ _) q _)
    · cases d <;> exact False.elim q
  · rcases ds with _ | ⟨d, _ | ⟨_, _⟩⟩ <;> first | exact False.elim q | skip
    obtain ⟨v, rfl, a⟩ := r.one_inv
    obtain ⟨xs, e, q⟩ := ifSome.get q; exact list_of R a e q
  · rcases ds with _ | ⟨d, _ | ⟨_, _⟩⟩ <;> first | exact False.elim q | skip
    obtain ⟨v, rfl, a⟩ := r.one_inv
    obtain ⟨xs, e, q⟩ := ifSome.get q; exact tuple_of R a e q
  · rcases ds with _ | ⟨d, _ | ⟨d', _ | ⟨_, _⟩⟩⟩ <;> first | exact False.elim q | (cases d <;> first | exact False.elim q | skip)
    all_goals (cases d' <;> first | exact False.elim q | skip)
    obtain ⟨v, v', rfl, a, a'⟩ := r.two_inv
    obtain ⟨tx, rfl⟩ := a.int_inv
    obtain ⟨ty, rfl⟩ := a'.int_inv
    rename_i x y
    refine min_two_ints hA.handled fun h' tk k => ?_
    have : (if y < x then Value.int y ty else Value.int x tx) = Value.int (if y < x then y else x) (if y < x then ty else tx) := by split <;> rfl
    rw [this]
    exact ⟨h', tk, [], [], _, rfl, k, List.forall_mem_nil _, by rw [List.append_nil, List.append_nil]; exact R.keeps k, .int _ _, by rw [List.append_nil]; exact q⟩
  · trivial

theorem place_spec {n i : Nat} {k : Int} (h : place n k = some i) : i < n ∧ ((0 ≤ k ∧ k = i) ∨ (k < 0 ∧ k + n = i)) := by
  unfold place at h
  split at h
  · split at h
    · cases h; omega
    · cases h
  · split at h
    · cases h; omega
    · cases h
theorem place_seq {n i : Nat} {k : Int} (h : place n k = some i) : seqIndex? k n = some i := by
  obtain ⟨h1, h2⟩ := place_spec h
  unfold seqIndex?
  rcases h2 with ⟨h0, h2⟩ | ⟨h0, h2⟩
  · have : ¬ k < 0 := by omega
    simp only [this, if_false, Bool.and_eq_true, decide_eq_true_eq]
    rw [if_pos ⟨h0, by omega⟩]; congr 1; omega
  · simp only [h0, if_true, Bool.and_eq_true, decide_eq_true_eq]
    rw [if_pos ⟨by omega, by omega⟩]; congr 1; omega

/-- x[k] -/
theorem idx_sound {value slice : Expr} {u v : Value} {x y : V} (hs : ∀ o i, subscripted slice false o i = operate [o, i] (getItem o i)) (R : HR G α s.heap H) (ru : Rep G α s.heap u x) (rv : Rep G α s.heap v y) (q : idxWp x y H Q) :
    wpAny (model prog w) A (subscriptTail value slice u v) (Post G (Rep G) s α H Q) E s := by
  cases rv with
  | int k t =>
    · obtain ⟨xs, e, q⟩ := ifSome.get q
      obtain ⟨i, hp, q⟩ := ifSome.get q
      obtain ⟨d, hd, q⟩ := ifSome.get q
      obtain ⟨a, vs, rfl, rs, z, z', hk⟩ := seqOf R ru e
      obtain ⟨val, hval, rd⟩ := rs.get hd
      have hz : vs.length ≤ 1000000 := z'
      have hlen := rs.len
      rw [← hlen] at hp
      obtain ⟨h1, h2⟩ := place_spec hp
      have hval' : vs.toArray[i]? = some val := by simpa using hval
      have b1 : -(2 ^ 63) ≤ k := by omega
      have b2 : k < 2 ^ 63 := by omega
      rcases hk with ⟨ht, _⟩ | ⟨hl, _⟩
      · exact item_tupleT (j := i) ht b1 b2 (place_seq hp) hval (Post.same' R rd q) (hs _ _)
      · rcases h2 with ⟨h0, h2⟩ | ⟨h0, h2⟩
        · exact tail_any hl.typeIs slot_list_getitem.lookup (wpAny_getItem_list hl h0 b2 (by rw [show k.toNat = i by omega]; exact hval') (Post.same' R rd q)) (hs _ _)
        · refine tail_any hl.typeIs slot_list_getitem.lookup (wpAny_getItem_list_neg hl h0 (by simp; omega) b1 ?_ (Post.same' R rd q)) (hs _ _)
          rw [show (k + (vs.toArray.size : Int)).toNat = i by simp; omega]; exact hval'
  | _ => exact False.elim q

theorem clip_eq (n : Nat) (k : Int) : clipAt n k = clampAt n k := rfl

/-- x[lo:hi] -/
theorem slc_sound {value slice : Expr} {u l h : Value} {x : V} {lo hi : Option V} {sl : Addr} (hs : ∀ o i, subscripted slice false o i = operate [i, o] (getItem o i)) (R : HR G α s.heap H) (ru : Rep G α s.heap u x)
    (hsl : s.heap.IsSliceOf sl l h .none) (rl : (l = .none ∧ lo = none) ∨ ∃ a ta, l = .int a ta ∧ lo = some (.int a)) (rh : (h = .none ∧ hi = none) ∨ ∃ a ta, h = .int a ta ∧ hi = some (.int a)) (q : slcWp x lo hi H Q) :
    wpAny (model prog w) A (subscriptTail value slice u (.ref sl)) (Post G (Rep G) s α H Q) E s := by
  unfold slcWp at q
  split at q
  · rename_i xs0
    rcases q with ⟨a, rfl, rfl, h1, h2, q⟩ | ⟨rfl, rfl, h1, q⟩
    · rcases rl with ⟨_, e⟩ | ⟨b, tb, rfl, e⟩
      · cases e
      rcases rh with ⟨rfl, _⟩ | ⟨c, tc, _, e'⟩
      · cases e
        cases ru with
        | tup ht rs z =>
          have hz : _ ≤ 1000000 := z
          have hlen := rs.len
          have hcast : ((a.toNat : Nat) : Int) = a := by omega
          refine tail_any ht.typeIs slot_tuple_getitem.lookup (getItem_tuple_from (a := a.toNat) (u := tb) ht (by rw [hcast]; exact hsl) (by omega) (by simp; omega) ?_ (by simp; have := lim_le; omega)) (hs _ _)
          simp only
          exact Post.newTup R (rs.drop a.toNat) (by rw [List.length_drop]; have : lim = 1000000 := rfl; omega) q s.toks
      · cases e'
    · rcases rl with ⟨rfl, _⟩ | ⟨b, tb, _, e⟩
      · rcases rh with ⟨_, e⟩ | ⟨c, tc, rfl, e⟩
        · cases e
        · cases e
          cases ru with
          | tup ht rs z =>
            have hz : _ ≤ 1000000 := z
            have hlen := rs.len
            have hx : 1 ≤ xs0.length := by cases xs0 with | nil => exact (h1 rfl).elim | cons a b => simp
            refine tail_any ht.typeIs slot_tuple_getitem.lookup (getItem_tuple_front (u := tc) ht hsl (by simp; omega) ?_ (by simp; have := lim_le; omega)) (hs _ _)
            simp only
            refine Post.newTup R ?_ ?_ q s.toks
            · rw [List.dropLast_eq_take, List.dropLast_eq_take, ← hlen]; exact rs.take _
            · rw [List.length_dropLast]; have : lim = 1000000 := rfl; omega
      · cases e
  · rename_i n
    obtain ⟨xs, hx, q⟩ := ifSome.get q
    obtain ⟨p, hc, q⟩ := ifSome.get q
    cases ru with
    | lst ha =>
      obtain ⟨vs, hl, rs, z, z'⟩ := R.getList ha hx
      have hlen := rs.len
      have hsz : vs.toArray.size ≤ sizeLine := by rw [List.size_toArray]; exact Nat.le_trans z' lim_le
      have key : ∀ (lo' hi' : Option Int), IsPart l lo' → IsPart h hi' → ((vs.toArray.toList.drop (lo'.elim 0 (clipAt vs.toArray.size))).take (hi'.elim vs.toArray.size (clipAt vs.toArray.size) - lo'.elim 0 (clipAt vs.toArray.size))) = (vs.take p.2).drop p.1 →
          wpAny (model prog w) A (subscriptTail value slice (.ref _) (.ref sl)) (Post G (Rep G) s α H Q) E s := fun lo' hi' pl ph he => by
        refine tail_any hl.typeIs slot_list_getitem.lookup (wpAny_getItem_list_slice (st := none) hl hsl pl ph .none (by intro e; cases e) ?_ hsz) (hs _ _)
        rw [slicePick_plain, he]
        refine Post.newLst' R ((rs.take p.2).drop p.1) ?_ q s.toks
        rw [List.length_drop, List.length_take]; omega
      have dt : ∀ a b : Nat, ((vs.toArray.toList.drop a).take (b - a)) = (vs.take b).drop a := fun a b => by simp [List.drop_take]
      unfold cutAt at hc
      rcases rl with ⟨rfl, rfl⟩ | ⟨a, ta, rfl, rfl⟩ <;> rcases rh with ⟨rfl, rfl⟩ | ⟨b, tb, rfl, rfl⟩ <;> simp only [Option.some.injEq] at hc <;> subst hc
      · refine key none none .none .none ?_
        simp [hlen]
      · refine key none (some b) .none (.int _ _) ?_
        simp [hlen, clip_eq]
      · refine key (some a) none (.int _ _) .none ?_
        rw [dt]; simp [hlen, clip_eq]
      · refine key (some a) (some b) (.int _ _) (.int _ _) ?_
        rw [dt]; simp [hlen, clip_eq]
  · exact q.elim
end
end Mine

set_option autoImplicit false
set_option linter.unusedVariables false
set_option maxRecDepth 100000
namespace Mine
open PySem PyProof.Rows PySem.Calls

theorem owner_rv : Manifest.owners.lookup (String.ofList ['d', 'e', 's', 'r', 'e', 'v', 'e', 'r'].reverse) = some Manifest.sig_reversed := by kernel_rfl
theorem slot_rv_next : Slot "reversed" "__next__" "reversed.__next__" :=
  .of (owner := "reversed") (n := "__next__") (by rw [typeLookup_type, builtinLookup_eq_fast]; kernel_rfl) (by decide +kernel) (by decide +kernel) (by decide +kernel)
    (by first | exact .inl (by decide +kernel) | exact .inr (by decide +kernel)) (by rw [isSubtype_type]; kernel_rfl)
theorem entry_rv_next : entryFor table "reversed.__next__" = some Builtin.«reversed.__next__» := entryFor_of_tree (by kernel_rfl)
theorem args_rv_next_1 (a : Value) : argsOk "reversed.__next__" ⟨[a], []⟩ := by
  unfold argsOk; rw [signature?_of (id := "reversed.__next__") (n := ['_', '_', 't', 'x', 'e', 'n', '_', '_']) (o := ['d', 'e', 's', 'r', 'e', 'v', 'e', 'r']) (by kernel_rfl) owner_rv]; kernel_rfl
theorem slot_rv_iter : Slot "reversed" "__iter__" "reversed.__iter__" :=
  .of (owner := "reversed") (n := "__iter__") (by rw [typeLookup_type, builtinLookup_eq_fast]; kernel_rfl) (by decide +kernel) (by decide +kernel) (by decide +kernel)
    (by first | exact .inl (by decide +kernel) | exact .inr (by decide +kernel)) (by rw [isSubtype_type]; kernel_rfl)
theorem args_rv_iter_1 (a : Value) : argsOk "reversed.__iter__" ⟨[a], []⟩ := by
  unfold argsOk; rw [signature?_of (id := "reversed.__iter__") (n := ['_', '_', 'r', 'e', 't', 'i', '_', '_']) (o := ['d', 'e', 's', 'r', 'e', 'v', 'e', 'r']) (by kernel_rfl) owner_rv]; kernel_rfl
theorem entry_rv_iter : entryFor table "reversed.__iter__" = some Builtin.«dict_keyiterator.__iter__» := by
  first
  | exact entryFor_alias (id' := "dict_keyiterator.__iter__") (by kernel_rfl) (by first | rfl | decide +kernel | (unfold String.splitOn; simp +decide [String.splitOnAux])) (by decide +kernel) (by kernel_rfl)
theorem noRev_tuple : typeLookup (.type "tuple") "__reversed__" = pure none := by rw [typeLookup_type, builtinLookup_eq_fast]; kernel_rfl
theorem sub_tuple_dict : isSubtype (.type "tuple") (.type "dict") = pure false := by rw [isSubtype_type]; kernel_rfl

noncomputable def rvObj (t : Addr) (i : Int) : Obj := { cls := .type "reversed", data := .fields #[.ref t, rawInt i] }
noncomputable def IsRv (h : Heap) (a t : Addr) (i : Int) : Prop := ∃ o, h.get? a = some o ∧ o.cls = .type "reversed" ∧ o.data = .fields #[.ref t, rawInt i]

section
variable {prog : Program} {w : World} {A : Around} {E : Value → Shared → Prop} {s : Shared}
theorem IsRv.typeIs {a t : Addr} {i : Int} (x : IsRv s.heap a t i) : s.TypeIs (.ref a) "reversed" := let ⟨o, ho, hc, _⟩ := x; ⟨o, ho, hc⟩
theorem IsRv.at {h h' : Heap} {a t : Addr} {i : Int} (x : IsRv h a t i) (e : ∀ o, h.get? a = some o → h'.get? a = some o) : IsRv h' a t i := let ⟨o, ho, r⟩ := x; ⟨o, e _ ho, r⟩

theorem rv_iter {it t : Addr} {i : Int} {Q : Value → Shared → Prop} (hit : IsRv s.heap it t i) (h : Q (.ref it) s) : wpAny (model prog w) A (pyIter (.ref it)) Q E s := by
  refine wpAny_pyIter_slot hit.typeIs slot_rv_iter (wpAny_call_entry slot_rv_iter hit.typeIs entry_rv_iter ?_ (args_rv_iter_1 _))
  show wpAny _ _ (ret (.ref it)) _ _ s
  exact wpAny_pure ⟨_, rfl, "reversed", _, hit.typeIs, slot_rv_next.lookup, h⟩

theorem rv_item {it t : Addr} {i : Nat} {items : Array Value} {x : Value} {Q : Option Value → Shared → Prop} (hit : IsRv s.heap it t (i : Int)) (ht : IsTup s.heap t items) (hx : items[i]? = some x) (hsm : (i : Int) < 2 ^ 63)
    (hQ : ∀ h' tk, IsRv h' it t ((i : Int) - 1) → Heap.SameBut it s.heap h' → Q (some x) { s with heap := h', toks := tk }) : wpAny (model prog w) A (pyNext (.ref it)) Q E s := by
  obtain ⟨o, ho, hc, hd⟩ := id hit
  unfold pyNext
  refine wpAny_bind (wpAny_attempt (wpAny_callSpecial?_slot (name := Str.ofString "__next__") hit.typeIs slot_rv_next
    (wpAny_call_entry slot_rv_next hit.typeIs entry_rv_next ?_ (args_rv_next_1 _))))
  unfold Builtin.«reversed.__next__»
  refine wpAny_bind (wpAny_of_eq (a := (Value.ref it, [])) rfl ?_)
  try dsimp only
  refine wpAny_bind (wpAny_field ho hd (x := .ref t) rfl ?_)
  refine wpAny_bind (wpAny_field ho hd (x := rawInt (i : Int)) rfl ?_)
  show wpAny _ _ (if (i : Int) < 0 then _ else _) _ _ s
  rw [if_neg (by omega)]
  show wpAny _ _ (specialOf (.ref t) "__getitem__" >>= _) _ _ s
  refine wpAny_bind (wpAny_specialOf ht.typeIs slot_tuple_getitem.lookup ?_)
  show wpAny _ _ ((mkInt (i : Int)) >>= _) _ _ s
  refine wpAny_bind (wpAny_mkInt ?_)
  have hj : seqIndex? (i : Int) items.size = some i := by
    have hlt : i < items.size := (Array.getElem?_eq_some_iff.mp hx).1
    unfold seqIndex?
    have : ¬ ((i : Int) < 0) := by omega
    simp only [this, if_false, Bool.and_eq_true, decide_eq_true_eq]
    rw [if_pos ⟨by omega, by omega⟩]; congr 1
  refine wpAny_bind (wpAny_attempt (getItem_tuple (s := { s with toks := s.toks + 1 }) ht (by omega) hsm hj hx ?_))
  show wpAny _ _ (field (.ref it) 1 >>= _) _ _ _
  refine wpAny_bind (wpAny_field (s := { s with toks := s.toks + 1 }) ho hd (x := rawInt (i : Int)) rfl ?_)
  refine wpAny_bind (m := setField (.ref it) 1 (rawInt ((i : Int) - 1))) (wpAny_setField (s := { s with toks := s.toks + 1 }) ho hd (by simp) ?_)
  first
  | refine wpAny_pure ⟨x, rfl, wpAny_pure (hQ _ _ ?_ (Heap.SameBut.update ..))⟩
  | refine wpAny_bind (wpAny_pure (wpAny_pure ⟨x, rfl, wpAny_pure (hQ _ _ ?_ (Heap.SameBut.update ..))⟩))
  exact ⟨_, Heap.get?_update_self _ ho (Obj.isFreed_of_fields (Obj.data_mapFields hd _)), (Obj.cls_mapFields ..).trans hc, by
    rw [Obj.data_mapFields hd]; simp⟩

theorem rv_end {it t : Addr} {Q : Option Value → Shared → Prop} (hh : A.handled = none) (hit : IsRv s.heap it t (-1))
    (hQ : ∀ h', Heap.ExtBut it s.heap h' → Q none { s with heap := h' }) : wpAny (model prog w) A (pyNext (.ref it)) Q E s := by
  obtain ⟨o, ho, hc, hd⟩ := id hit
  unfold pyNext
  refine wpAny_bind (wpAny_attempt (wpAny_callSpecial?_slot (name := Str.ofString "__next__") hit.typeIs slot_rv_next
    (wpAny_call_entry slot_rv_next hit.typeIs entry_rv_next ?_ (args_rv_next_1 _))))
  unfold Builtin.«reversed.__next__»
  refine wpAny_bind (wpAny_of_eq (a := (Value.ref it, [])) rfl ?_)
  try dsimp only
  refine wpAny_bind (wpAny_field ho hd (x := .ref t) rfl ?_)
  refine wpAny_bind (wpAny_field ho hd (x := rawInt (-1)) rfl ?_)
  show wpAny _ _ (if (-1 : Int) < 0 then _ else _) _ _ s
  rw [if_pos (by decide)]
  refine wpAny_bind (wpAny_rule ?_)
  show wpAny _ _ ((do setField (.ref it) 1 (rawInt (-1)); setField (.ref it) 0 .none : Sem Unit) >>= _) _ _ _
  refine wpAny_bind (wpAny_bind (wpAny_setField ho hd (by simp) ?_))
  have ho1 : (s.heap.update it (Obj.mapFields fun x => x.setIfInBounds 1 (rawInt (-1)))).get? it = some (Obj.mapFields (fun x => x.setIfInBounds 1 (rawInt (-1))) o) :=
    Heap.get?_update_self _ ho (Obj.isFreed_of_fields (Obj.data_mapFields hd _))
  have hd1 := Obj.data_mapFields hd (fun x => x.setIfInBounds 1 (rawInt (-1)))
  refine wpAny_setField (s := { s with heap := s.heap.update it (Obj.mapFields fun x => x.setIfInBounds 1 (rawInt (-1))) }) ho1 hd1 (by simp) ?_
  have hsb : Heap.SameBut it s.heap ((s.heap.update it (Obj.mapFields fun x => x.setIfInBounds 1 (rawInt (-1)))).update it (Obj.mapFields fun x => x.setIfInBounds 0 .none)) :=
    (Heap.SameBut.update ..).trans (Heap.SameBut.update ..)
  generalize (s.heap.update it (Obj.mapFields fun x => x.setIfInBounds 1 (rawInt (-1)))).update it (Obj.mapFields fun x => x.setIfInBounds 0 .none) = h2 at hsb ⊢
  first
  | show wpAny _ _ (newExc (.type "StopIteration") [] >>= _) _ _ _
  | (refine wpAny_bind ?_; show wpAny _ _ (newExc (.type "StopIteration") [] >>= _) _ _ _)
  refine wpAny_bind ?_
  simp only [newExc, newTuple]
  refine wpAny_bind (wpAny_newObj_type ?_ (by size_fits))
  refine wpAny_bind (m := firstArgMember _ _) (wpAny_of_eq (a := Value.none) (by first | rfl | (simp only [firstArgMember]; rfl)) ?_)
  refine wpAny_newObj_type ?_ (by size_fits)
  simp only [raiseNew]
  refine wpAny_bind (wpAny_handled ?_)
  first | rw [show A.in1.handled = none from hh] | rw [hh]
  refine wpAny_bind (wpAny_pure (wpAny_throw ?_))
  refine wpAny_bind (wpAny_isInstance (T := "StopIteration") (b := true) ⟨_, Heap.get?_push_size _ rfl, rfl⟩ isSubtype_stop ?_)
  exact wpAny_pure (hQ _ ((hsb.extBut.push _).push _))

theorem Walks.tupRev (hh : A.handled = none) (I t : Addr) (hne : t ≠ I) (items : Array Value) (hz : items.size ≤ 1000000) :
    Walks prog w A I [I, t] [I] items.size (fun i v => items[items.size - 1 - i]? = some v) (fun i h => i ≤ items.size ∧ IsRv h I t ((items.size : Int) - 1 - (i : Int)) ∧ IsTup h t items) where
  sub := fun b hb => by simp at hb; simp [hb]
  frame := fun _ _ _ x hk => ⟨x.1, x.2.1.at fun o e => hk I (by simp) o e, let ⟨o, ho, r⟩ := x.2.2; ⟨o, hk t (by simp) o ho, r⟩⟩
  item := fun i s Q E hi x hQ => by
    have e : (items.size : Int) - 1 - (i : Int) = ((items.size - 1 - i : Nat) : Int) := by omega
    have hit := x.2.1
    rw [e] at hit
    have hlt : items.size - 1 - i < items.size := by omega
    refine rv_item hit x.2.2 (x := items[items.size - 1 - i]) (by simp [hlt]) (by omega) fun h' tk hit' hs' => ?_
    refine hQ _ h' tk (by simp [hlt]) ⟨by omega, ?_, x.2.2.extBut hs'.extBut hne⟩ fun b o hb e => hs'.extBut b o (fun h => hb (by simp [h])) e
    have e2 : (items.size : Int) - 1 - ((i + 1 : Nat) : Int) = ((items.size - 1 - i : Nat) : Int) - 1 := by omega
    rw [e2]; exact hit'
  done := fun s Q E x hQ => by
    have hit := x.2.1
    rw [show (items.size : Int) - 1 - (items.size : Int) = -1 by omega] at hit
    exact rv_end hh hit fun h' he' => hQ h' s.toks fun b o hb e => he' b o (fun h => hb (by simp [h])) e
  self := fun _ _ _ _ x hQ => rv_iter x.2.1 hQ

theorem code_rv_new {t : Addr} {items : Array Value} {Q₁ : Value → Shared → Prop} (ht : IsTup s.heap t items) (hz : (items.size : Int) < 2 ^ 63)
    (h : ∀ tk, Q₁ (.ref s.heap.objs.size) { s with heap := s.heap.push (rvObj t ((items.size : Int) - 1)), toks := tk }) :
    codeAny (model prog w) A (.call (.builtin "reversed.__new__") ⟨[.type "reversed", .ref t], []⟩) (wants Q₁ E) s := by
  refine codeAny_of_tree ?_
  show wpAny _ A.in1 (do checkBuiltinCall "reversed.__new__" ⟨[.type "reversed", .ref t], []⟩; again (.builtin "reversed.__new__" ⟨[.type "reversed", .ref t], []⟩)) _ _ s
  refine wpAny_bind (wpAny_of_eq (F.newCall_reversed_1 _) (wpAny_pure ⟨plainId_quiet F.plain_reversed_new _, codeAny_builtin F.entry_reversed_new ?_⟩))
  rw [Around.under_plainId F.plain_reversed_new _]
  unfold Builtin.«reversed.__new__»
  refine wpAny_bind (wpAny_of_eq (newClass_reversed _) ?_)
  try dsimp only
  refine wpAny_bind (wpAny_of_eq (a := ()) (by first | rfl | kernel_rfl) ?_)
  refine wpAny_bind (wpAny_of_eq (a := ()) (by first | rfl | kernel_rfl) ?_)
  try dsimp only
  refine wpAny_bind (wpAny_specialOf ht.typeIs noRev_tuple ?_)
  try dsimp only
  refine wpAny_bind (wpAny_bind (wpAny_isInstance ht.typeIs sub_tuple_dict ?_))
  show wpAny _ _ (specialOf (.ref t) "__getitem__" >>= _) _ _ s
  refine wpAny_bind (wpAny_specialOf ht.typeIs slot_tuple_getitem.lookup ?_)
  show wpAny _ _ (if (["tuple.__getitem__", "str.__getitem__", "bytes.__getitem__", "bytearray.__getitem__", "memoryview.__getitem__", "numpy.ndarray.__getitem__", "sqlite3.Row.__getitem__"].contains "tuple.__getitem__") = true then _ else _) _ _ s
  rw [if_pos (by decide)]
  refine wpAny_pure ?_
  show wpAny _ _ (call (.builtin "len") [.ref t] >>= _) _ _ s
  refine wpAny_bind (len_tuple ht hz ?_)
  refine wpAny_bind (m := asInt? _) (wpAny_of_eq (a := some (items.size : Int)) (by rfl) ?_)
  try dsimp only
  refine wpAny_bind (m := Builtin.SmallTypes.newRecord _ _) ?_
  unfold Builtin.SmallTypes.newRecord
  refine wpAny_newObj_type ?_ (by show Array.size _ ≤ _; rw [sizeLine_eq]; simp)
  first
  | exact wpAny_pure (h _)
  | exact wpAny_bind (wpAny_pure (wpAny_pure (h _)))

theorem slot_rv_init : Slot "reversed" "__init__" "object.__init__" :=
  .of (owner := "object") (n := "__init__") (by rw [typeLookup_type, builtinLookup_eq_fast]; kernel_rfl) (by decide +kernel) (by decide +kernel) (by decide +kernel)
    (by first | exact .inl (by decide +kernel) | exact .inr (by decide +kernel)) (by rw [isSubtype_type]; kernel_rfl)
theorem called_reversed : TypeCalled "reversed" "reversed.__new__" "object.__init__" :=
  ⟨by decide +kernel, F.create_reversed, ⟨_, _, F.mro_reversed⟩, F.made_reversed, F.plain_reversed_new, F.sub_reversed_self, slot_rv_init⟩

theorem call_reversed_tup {t : Addr} {items : Array Value} {Q : Value → Shared → Prop} (ht : IsTup s.heap t items) (hz : (items.size : Int) < 2 ^ 63)
    (h : ∀ tk, Q (.ref s.heap.objs.size) { s with heap := s.heap.push (rvObj t ((items.size : Int) - 1)), toks := tk }) : wpAny (model prog w) A (call (.type "reversed") [.ref t]) Q E s := by
  refine callType_codes (Q₁ := fun obj s₁ => ∃ tk, obj = .ref s.heap.objs.size ∧ s₁ = { s with heap := s.heap.push (rvObj t ((items.size : Int) - 1)), toks := tk }) called_reversed (F.typeCall_reversed_1 _) F.entry_object_init
    (code_rv_new ht hz fun tk => ⟨tk, rfl, rfl⟩) ?_
  rintro obj s₁ ⟨tk, rfl, rfl⟩
  have hT : Shared.TypeIs { s with heap := s.heap.push (rvObj t ((items.size : Int) - 1)), toks := tk } (.ref s.heap.objs.size) "reversed" := ⟨_, Heap.get?_push_size _ rfl, rfl⟩
  refine ⟨hT, F.args_object_init_2 _ _, ?_⟩
  exact object_init_meets slot_rv_init.lookup F.made_reversed (by decide) prog w A.in1 _ _ ⟨hT, rfl, h tk⟩
end
end Mine

set_option autoImplicit false
set_option linter.unusedSimpArgs false
set_option linter.unusedVariables false
namespace Mine
open PySem PyProof.Rows PySem.Calls

theorem Reps.inv1 {G : GV} {α : List Addr} {h : Heap} {vs : List Value} {a : V} (r : Reps G α h vs [a]) : ∃ v, vs = [v] ∧ Rep G α h v a := by
  cases r with | cons x r => cases r with | nil => exact ⟨_, rfl, x⟩
theorem Reps.inv2 {G : GV} {α : List Addr} {h : Heap} {vs : List Value} {a b : V} (r : Reps G α h vs [a, b]) : ∃ v w, vs = [v, w] ∧ Rep G α h v a ∧ Rep G α h w b := by
  cases r with | cons x r => obtain ⟨w, rfl, y⟩ := r.inv1; exact ⟨_, _, rfl, x, y⟩
theorem Reps.inv3 {G : GV} {α : List Addr} {h : Heap} {vs : List Value} {a b c : V} (r : Reps G α h vs [a, b, c]) : ∃ v w u, vs = [v, w, u] ∧ Rep G α h v a ∧ Rep G α h w b ∧ Rep G α h u c := by
  cases r with | cons x r => obtain ⟨w, u, rfl, y, z⟩ := r.inv2; exact ⟨_, _, _, rfl, x, y, z⟩

/-- an iterator over the items xs; s: the state ahead of it -/
noncomputable def ItOk (prog : Program) (w : World) (A : Around) (G : GV) (s : Shared) (α : List Addr) (xs : List V) (src : Option Nat) (it : Value) (s₂ : Shared) : Prop :=
  ∃ I fp wr P St h tk, it = .ref I ∧ s₂ = { s with heap := h, toks := tk } ∧ KeepsH s.heap h ∧ Walks prog w A I fp wr xs.length P St ∧ St 0 h ∧ (∀ b ∈ wr, s.heap.get? b = none) ∧
    (∀ i h, St i h → ∀ b ∈ wr, ∃ o vs, h.get? b = some o ∧ o.data = .fields vs) ∧ (∀ b ∈ fp, ∃ o, h.get? b = some o) ∧ (∀ b ∈ fp, b ∉ wr → (∃ n, src = some n ∧ α[n]? = some b) ∨ ∃ items, IsTup h b items) ∧ (∀ i v, i < xs.length → P i v → ∃ d, xs[i]? = some d ∧ Rep G α h v d)

section
variable {prog : Program} {w : World} {A : Around} {E : Value → Shared → Prop} {s : Shared} {G : GV} {α : List Addr} {H : Hp}

theorem iter_seq {v : Value} {d : V} {xs : List V} (hA : AOk A) (R : HR G α s.heap H) (r : Rep G α s.heap v d) (e : items H d = some xs) :
    wpAny (model prog w) A (pyIter v) (ItOk prog w A G s α xs (srcOf d)) E s := by
  obtain ⟨a, vs, rfl, rs, z, z', hk⟩ := seqOf R r e
  rcases hk with ⟨ht, ys, rfl⟩ | ⟨hl, n, rfl⟩
  · refine wpAny_pyIter_tuple ht ?_
    have hlt : a < s.heap.objs.size := let ⟨o, ho, _⟩ := ht; Heap.lt_size ho
    have hne : a ≠ s.heap.objs.size := Nat.ne_of_lt hlt
    have k := keeps_push s.heap { cls := .type "tuple_iterator", data := .fields #[.ref a, .int 0 0] }
    have ht' := ht.keeps k
    have W := Walks.tuple (prog := prog) (w := w) hA.handled s.heap.objs.size a hne vs.toArray
    have hsz : vs.toArray.size = xs.length := by rw [List.size_toArray, rs.len]
    rw [hsz] at W
    refine ⟨_, _, _, _, _, _, s.toks, rfl, rfl, k, W, ⟨⟨_, Heap.get?_push_size _ rfl, rfl, rfl⟩, ht'⟩, ?_, ?_, ?_, ?_, ?_⟩
    · intro b hb; simp at hb; subst hb; exact size_none _
    · rintro i h ⟨⟨o, ho, _, hd⟩, _⟩ b hb; simp at hb; subst hb; exact ⟨o, _, ho, hd⟩
    · intro b hb; simp at hb
      rcases hb with rfl | rfl
      · exact ⟨_, Heap.get?_push_size _ rfl⟩
      · obtain ⟨o, ho, _⟩ := ht'; exact ⟨o, ho⟩
    · intro b hb hw; simp at hb hw
      rcases hb with rfl | rfl
      · exact absurd rfl hw
      · exact .inr ⟨_, ht'⟩
    · intro i v _ hv
      obtain ⟨d, hd, r⟩ := rs.get' (by simpa using hv)
      exact ⟨d, hd, r.mono (fun _ _ e => e) (.of k)⟩
  · refine wpAny_pyIter_list hl ?_
    have hlt : a < s.heap.objs.size := let ⟨o, ho, _⟩ := hl; Heap.lt_size ho
    have hne : a ≠ s.heap.objs.size := Nat.ne_of_lt hlt
    have k := keeps_push s.heap { cls := .type "list_iterator", data := .fields #[.ref a, .int 0 0] }
    have hl' := isList_keeps hl k
    have W := Walks.list (prog := prog) (w := w) hA.handled s.heap.objs.size a hne vs.toArray
    have hsz : vs.toArray.size = xs.length := by rw [List.size_toArray, rs.len]
    rw [hsz] at W
    refine ⟨_, _, _, _, _, _, s.toks, rfl, rfl, k, W, ⟨⟨_, Heap.get?_push_size _ rfl, rfl, rfl⟩, hl'⟩, ?_, ?_, ?_, ?_, ?_⟩
    · intro b hb; simp at hb; subst hb; exact size_none _
    · rintro i h ⟨⟨o, ho, _, hd⟩, _⟩ b hb; simp at hb; subst hb; exact ⟨o, _, ho, hd⟩
    · intro b hb; simp at hb
      rcases hb with rfl | rfl
      · exact ⟨_, Heap.get?_push_size _ rfl⟩
      · obtain ⟨o, ho, _⟩ := hl'; exact ⟨o, ho⟩
    · intro b hb hw; simp at hb hw
      rcases hb with rfl | rfl
      · exact absurd rfl hw
      · cases r with
        | lst ha => exact .inl ⟨n, rfl, ha⟩
    · intro i v _ hv
      obtain ⟨d, hd, r⟩ := rs.get' (by simpa using hv)
      exact ⟨d, hd, r.mono (fun _ _ e => e) (.of k)⟩

theorem rangeSize_nonneg {a b c : Int} (hc : c = 1 ∨ c = -1 ∨ c = 2) : 0 ≤ Builtin.Range.rangeSize a b c := by
  unfold Builtin.Range.rangeSize
  rcases hc with rfl | rfl | rfl <;> simp <;> (split <;> omega)
theorem rangeSize_le {a b c : Int} (hc : c = 1 ∨ c = -1 ∨ c = 2) (ha : smallI a) (hb : smallI b) : Builtin.Range.rangeSize a b c ≤ 2 ^ 41 := by
  unfold Builtin.Range.rangeSize
  obtain ⟨a1, a2⟩ := ha
  obtain ⟨b1, b2⟩ := hb
  rcases hc with rfl | rfl | rfl <;> simp <;> (split <;> omega)

theorem iter_range {a b c : Int} {t u v : Tok} {r : Addr} (hA : AOk A) (hr : IsRange s.heap r a b c t u v) (ha : smallI a) (hb : smallI b) (hc : c = 1 ∨ c = -1 ∨ c = 2) :
    wpAny (model prog w) A (pyIter (.ref r)) (ItOk prog w A G s α ((rangeL a b c).map V.int) none) E s := by
  have hsm : Builtin.Range.small a b c = true := by
    have h1 := rangeSize_nonneg (a := a) (b := b) hc
    have h2 := rangeSize_le hc ha hb
    obtain ⟨a1, a2⟩ := ha
    obtain ⟨b1, b2⟩ := hb
    have f : ∀ x : Int, -(2 ^ 63) ≤ x → x < 2 ^ 63 → Builtin.Range.rangeFitsLong x = true := fun x p q => by
      unfold Builtin.Range.rangeFitsLong
      rw [Bool.and_eq_true]; exact ⟨decide_eq_true p, decide_eq_true q⟩
    unfold Builtin.Range.small
    rw [f a (by omega) (by omega), f b (by omega) (by omega), f c (by omega) (by omega), f _ (by omega) (by omega)]
    rcases hc with rfl | rfl | rfl
    · rw [if_pos (by decide), f _ (by omega) (by omega)]; simp
    · rw [if_neg (by decide), f _ (by omega) (by omega)]; simp
    · rw [if_pos (by decide), f _ (by omega) (by omega)]; simp
  refine wpAny_pyIter_range hr hsm ?_
  have k := keeps_push s.heap { cls := .type "range_iterator", data := .fields #[rawInt a, rawInt (Builtin.Range.rangeSize a b c), rawInt c] }
  have hn : 0 ≤ Builtin.Range.rangeSize a b c := rangeSize_nonneg hc
  have hlen : ((rangeL a b c).map V.int).length = (Builtin.Range.rangeSize a b c).toNat := by simp [rangeL]
  have W := Walks.range (prog := prog) (w := w) hA.handled s.heap.objs.size a c (Builtin.Range.rangeSize a b c).toNat
  rw [← hlen] at W
  refine ⟨_, _, _, _, _, _, s.toks, rfl, rfl, k, W, ?_, ?_, ?_, ?_, ?_, ?_⟩
  · show IsRangeIter _ _ _ _ _
    rw [hlen]
    have e1 : a + ((0 : Nat) : Int) * c = a := by simp
    have e2 : (((Builtin.Range.rangeSize a b c).toNat : Nat) : Int) - ((0 : Nat) : Int) = Builtin.Range.rangeSize a b c := by omega
    rw [e1, e2]
    exact Heap.get?_push_size _ rfl
  · intro b hb; simp at hb; subst hb; exact size_none _
  · intro i h hi b hb; simp at hb; subst hb; exact ⟨_, _, hi, rfl⟩
  · intro b hb; simp at hb; subst hb; exact ⟨_, Heap.get?_push_size _ rfl⟩
  · intro b hb hw; exact absurd hb hw
  · rintro i v hi ⟨t, rfl⟩
    rw [hlen] at hi
    refine ⟨.int (a + i * c), ?_, .int _ _⟩
    simp [rangeL, List.getElem?_range hi, Int.mul_comm]

/-- reversed(x), and its iterator -/
theorem iter_rev {v : Value} {d : V} {xs : List V} (hA : AOk A) (R : HR G α s.heap H) (r : Rep G α s.heap v d) (e : items H d = some xs) :
    wpAny (model prog w) A (call (.type "reversed") [v]) (fun x s₁ => wpAny (model prog w) A (pyIter x) (ItOk prog w A G s α xs.reverse (srcOf d)) E s₁) E s := by
  obtain ⟨a, vs, rfl, rs, z, z', hk⟩ := seqOf R r e
  have hz : vs.length ≤ 1000000 := z'
  have hsz : vs.toArray.size = xs.reverse.length := by rw [List.size_toArray, rs.len, List.length_reverse]
  have get : ∀ i v (h : Heap), KeepsH s.heap h → i < xs.reverse.length → vs.toArray[xs.reverse.length - 1 - i]? = some v → ∃ d, xs.reverse[i]? = some d ∧ Rep G α h v d := fun i v h k hi hv => by
    obtain ⟨d, hd, r⟩ := rs.get' (by simpa using hv)
    refine ⟨d, ?_, r.mono (fun _ _ e => e) (.of k)⟩
    rw [List.length_reverse] at hi
    rw [List.getElem?_reverse hi]; exact hd
  rcases hk with ⟨ht, ys, rfl⟩ | ⟨hl, n, rfl⟩
  · have hlt : a < s.heap.objs.size := let ⟨o, ho, _⟩ := ht; Heap.lt_size ho
    have hne : a ≠ s.heap.objs.size := Nat.ne_of_lt hlt
    refine call_reversed_tup ht (by simp; omega) fun tk => ?_
    have k := keeps_push s.heap (rvObj a ((vs.toArray.size : Int) - 1))
    have ht' := ht.keeps k
    have hI : IsRv (s.heap.push (rvObj a ((vs.toArray.size : Int) - 1))) s.heap.objs.size a ((vs.toArray.size : Int) - 1) := ⟨_, Heap.get?_push_size _ rfl, rfl, rfl⟩
    refine rv_iter hI ?_
    have W := Walks.tupRev (prog := prog) (w := w) hA.handled s.heap.objs.size a hne vs.toArray (by simp; omega)
    rw [hsz] at W
    refine ⟨_, _, _, _, _, _, tk, rfl, rfl, k, W, ⟨Nat.zero_le _, ?_, ht'⟩, ?_, ?_, ?_, ?_, fun i v hi hv => get i v _ k hi hv⟩
    · rw [← hsz]; simpa using hI
    · intro b hb; simp at hb; subst hb; exact size_none _
    · rintro i h ⟨_, ⟨o, ho, _, hd⟩, _⟩ b hb; simp at hb; subst hb; exact ⟨o, _, ho, hd⟩
    · intro b hb; simp at hb
      rcases hb with rfl | rfl
      · exact ⟨_, Heap.get?_push_size _ rfl⟩
      · obtain ⟨o, ho, _⟩ := ht'; exact ⟨o, ho⟩
    · intro b hb hw; simp at hb hw
      rcases hb with rfl | rfl
      · exact absurd rfl hw
      · exact .inr ⟨_, ht'⟩
  · have hlt : a < s.heap.objs.size := let ⟨o, ho, _⟩ := hl; Heap.lt_size ho
    have hne : a ≠ s.heap.objs.size := Nat.ne_of_lt hlt
    refine call_reversed_list hl ?_
    have k := keeps_push s.heap (revObj a ((vs.toArray.size : Int) - 1))
    have hl' := isList_keeps hl k
    have hI : (s.heap.push (revObj a ((vs.toArray.size : Int) - 1))).IsRevIter s.heap.objs.size a ((vs.toArray.size : Int) - 1) := ⟨_, Heap.get?_push_size _ rfl, rfl, rfl⟩
    refine wpAny_pyIter_revIter hI ?_
    have W := Walks.listRev (prog := prog) (w := w) hA.handled s.heap.objs.size a hne vs.toArray
    rw [hsz] at W
    refine ⟨_, _, _, _, _, _, s.toks, rfl, rfl, k, W, ⟨Nat.zero_le _, ?_, hl'⟩, ?_, ?_, ?_, ?_, fun i v hi hv => get i v _ k hi hv⟩
    · rw [← hsz]; simpa using hI
    · intro b hb; simp at hb; subst hb; exact size_none _
    · rintro i h ⟨_, ⟨o, ho, _, hd⟩, _⟩ b hb; simp at hb; subst hb; exact ⟨o, _, ho, hd⟩
    · intro b hb; simp at hb
      rcases hb with rfl | rfl
      · exact ⟨_, Heap.get?_push_size _ rfl⟩
      · obtain ⟨o, ho, _⟩ := hl'; exact ⟨o, ho⟩
    · intro b hb hw; simp at hb hw
      rcases hb with rfl | rfl
      · exact absurd rfl hw
      · cases r with
        | lst ha => exact .inl ⟨n, rfl, ha⟩
end

/-- the state from which a loop is walked -/
noncomputable def ItPost (X : SX) (s : Shared) (α : List Addr) (H : Hp) (Q : List V → Option Nat → Hp → Prop) (it : Value) (s₂ : Shared) : Prop :=
  ∃ h₁ tk₁ β K xs src, KeepsH s.heap h₁ ∧ (∀ b ∈ β, s.heap.get? b = none) ∧ HR X.G (α ++ β) h₁ (H ++ K) ∧ ItOk X.prog X.w X.A X.G { s with heap := h₁, toks := tk₁ } (α ++ β) xs src it s₂ ∧ Q xs src (H ++ K)

noncomputable def SI (X : SX) (c : MC) (pi : PI) (e : Expr) : Prop :=
  ∀ (env : Env) (s : Shared) (α : List Addr) (ρ : Loc) (H : Hp) (Q : List V → Option Nat → Hp → Prop) (E : Value → Shared → Prop), EnvOk c env → GF X.G c.g X.DT s.heap → HR X.G α s.heap H → FI X.G c env α s.heap ρ →
    wpI X.sub X.Φ pi ρ H Q → wpAny (model X.prog X.w) X.A (eval e env) (fun xv s₁ => wpAny (model X.prog X.w) X.A (pyIter xv) (ItPost X s α H Q) E s₁) E s

section
variable {X : SX} {c : MC}
theorem si_seq {pe : PE} {e : Expr} (hA : AOk X.A) (h : SE X c pe e) : SI X c (.seq pe) e := fun env s α ρ H Q E O T R F q => by
  simp only [qI1, qI2, qI3] at q
  refine wpAny_mono (h env s α ρ H _ E O T R F q) (fun v s₁ p => ?_) fun _ _ x => x
  obtain ⟨h₁, tk₁, β, K, d, rfl, k, f, R', r, q⟩ := p
  obtain ⟨xs, e, q⟩ := ifSome.get q
  exact wpAny_mono (iter_seq (s := { s with heap := h₁, toks := tk₁ }) hA R' r e) (fun it s₂ p => ⟨h₁, tk₁, β, K, xs, _, k, f, R', p, q⟩) fun _ _ x => x

theorem si_rev {pe : PE} {e : Expr} {p pos : Pos} (hA : AOk X.A) (hx : c.isGlob "reversed" = true) (hn : notStar e = true) (h : SE X c pe e) : SI X c (.rev pe) (.Call (.Name "reversed" p) [e] [] pos) := fun env s α ρ H Q E O T R F q => by
  simp only [qI1, qI2, qI3] at q
  refine Call_ (load_b bootRev (by simp [bltNames]) hx O T (callWith_type1 (args_cons (wpAny_mono (h env s α ρ H _ E O T R F q) (fun v s₁ p => args_nil ?_) fun _ _ x => x) (starEach_cons hn)) (starEach_cons hn) rfl))
  obtain ⟨h₁, tk₁, β, K, d, rfl, k, f, R', r, q⟩ := p
  obtain ⟨xs, e, q⟩ := ifSome.get q
  refine wpAny_mono (iter_rev (s := { s with heap := h₁, toks := tk₁ }) hA R' r e) (fun x s₂ p => ?_) fun _ _ x => x
  exact wpAny_mono p (fun it s₂ p => ⟨h₁, tk₁, β, K, _, _, k, f, R', p, q⟩) fun _ _ x => x

theorem si_rng {ps : PEs} {e : Expr} {es : List Expr} {p pos : Pos} (hA : AOk X.A) (hx : c.isGlob "range" = true) (hn : noStar (e :: es) = true) (h : SEs X c ps (e :: es)) : SI X c (.rng ps) (.Call (.Name "range" p) (e :: es) [] pos) := fun env s α ρ H Q E O T R F q => by
  simp only [qI1, qI2, qI3] at q
  simp only [noStar, List.all_cons, Bool.and_eq_true] at hn
  refine Call_ (load_b bootRange (by simp [bltNames]) hx O T (callWith_type1 (wpAny_mono (h env s α ρ H _ E pos O T R F q) (fun vs s₁ p => ?_) fun _ _ y => y) (starEach_cons hn.1) (star_any hn.2)))
  obtain ⟨h₁, tk₁, β, K, ds, rfl, k, f, R', r, a, b, cc, hr, ha, hb, hc, q⟩ := p
  obtain ⟨r, _⟩ := r
  have fin : ∀ (o : Obj) (tk : Nat) (t u v : Tok), o = { cls := .type "range", data := .fields #[.int a t, .int b u, .int cc v] } →
      wpAny (model X.prog X.w) X.A (pyIter (.ref h₁.objs.size)) (ItPost X s α H Q) E { s with heap := h₁.push o, toks := tk } := fun o tk t u v ho => by
    subst ho
    refine wpAny_mono (iter_range (s := { s with heap := h₁.push _, toks := tk }) (G := X.G) (α := α ++ β) hA (IsRange.new h₁ a b cc t u v) ha hb hc) (fun it s₂ p => ?_) fun _ _ x => x
    refine ⟨_, tk, β, K, _, _, KeepsH.trans k (keeps_push _ _), f, R'.keeps (keeps_push _ _), p, q⟩
  unfold rngOf at hr
  split at hr
  · cases hr
    obtain ⟨v1, rfl, x1⟩ := r.inv1
    cases x1
    exact call_range_1 (s := { s with heap := h₁, toks := tk₁ }) (fin _ _ _ _ _ rfl)
  · cases hr
    obtain ⟨v1, v2, rfl, x1, x2⟩ := r.inv2
    cases x1; cases x2
    exact call_range_2 (s := { s with heap := h₁, toks := tk₁ }) (fin _ _ _ _ _ rfl)
  · cases hr
    obtain ⟨v1, v2, v3, rfl, x1, x2, x3⟩ := r.inv3
    cases x1; cases x2; cases x3
    exact call_range_3 (s := { s with heap := h₁, toks := tk₁ }) (by omega) (fin _ _ _ _ _ rfl) (Or.inl (PyProof.noPylong_small (by omega)))
  · cases hr
end
end Mine

set_option autoImplicit false
set_option linter.unusedSimpArgs false
set_option linter.unusedVariables false
namespace Mine
open PySem PyProof.Rows PySem.Calls

/-! what is no list and no tuple may turn -/
noncomputable def KeepsLT (h h' : Heap) : Prop := ∀ a o items n, h.get? a = some o → o.data = .seq items n → h'.get? a = some o
theorem KeepsLT.of {h h' : Heap} (k : KeepsH h h') : KeepsLT h h' := fun a o _ _ e _ => k a o e
theorem KeepsLT.trans {h h' h'' : Heap} (a : KeepsLT h h') (b : KeepsLT h' h'') : KeepsLT h h'' := fun x o _ _ e d => b x o _ _ (a x o _ _ e d) d
theorem KeepsLT.tup {h h' : Heap} (k : KeepsLT h h') : KeepsT h h' := fun a items ⟨o, ho, hc, n, hd⟩ => ⟨o, k a o _ _ ho hd, hc, n, hd⟩
theorem KeepsLT.list {h h' : Heap} (k : KeepsLT h h') {a : Addr} {items : Array Value} (x : h.IsList a items) : h'.IsList a items := let ⟨o, ho, hc, n, hd⟩ := x; ⟨o, k a o _ _ ho hd, hc, n, hd⟩
theorem KeepsLT.plain {h h' : Heap} (k : KeepsLT h h') {a : Addr} {items : Array Value} (x : h.PlainList a items) : h'.PlainList a items := let ⟨n, e⟩ := x; ⟨n, k a _ _ _ e rfl⟩
theorem HR.lt' {G : GV} {α : List Addr} {h h' : Heap} {H : Hp} (r : HR G α h H) (k : KeepsLT h h') : HR G α h' H :=
  ⟨r.len, r.nodup, r.pos, fun n a xs e1 e2 => let ⟨vs, l, q, z, p⟩ := r.lst n a xs e1 e2; ⟨vs, k.list l, q.mono (fun _ _ e => e) k.tup, z, fun hn => k.plain (p hn)⟩⟩
theorem KeepsLT.sameBut {h h' : Heap} {b : Addr} (hs : Heap.SameBut b h h') (hb : ∀ o, h.get? b = some o → ∀ items n, o.data ≠ .seq items n) : KeepsLT h h' := fun a o items n e d => by
  by_cases hab : a = b
  · subst hab; exact absurd d (hb o e items n)
  · exact hs.extBut a o hab e
theorem ns_notSeq {h : Heap} {b : Addr} {m : Str → Option Value} (hn : h.Ns b m) : ∀ o, h.get? b = some o → ∀ items n, o.data ≠ .seq items n := fun o e items n d => by
  obtain ⟨o', es, ep, ho, hd, _⟩ := hn
  rw [ho] at e; cases e; rw [hd] at d; cases d

/-! the names of a comprehension's scope -/
theorem lookup_relabel {env : Env} : ∀ {names : List (Str × NameKind)} {x : Str} {k : NameKind}, names.lookup x = some k →
    (names.map fun (n, k) => if (k == NameKind.free && env.scope.kind == .function && env.kindOf n == some .cell) then (n, NameKind.cell) else (n, k)).lookup x =
      some (if (k == NameKind.free && env.scope.kind == .function && env.kindOf x == some .cell) then NameKind.cell else k)
  | [], _, _, h => by simp at h
  | (n, k') :: r, x, k, h => by
    have ih := @lookup_relabel env r x k
    show List.lookup x ((if (k' == NameKind.free && env.scope.kind == .function && env.kindOf n == some .cell) = true then (n, NameKind.cell) else (n, k')) :: _) = _
    cases hx : x == n with
    | true =>
      have hx' := beq_iff_eq.mp hx
      subst hx'
      simp only [List.lookup_cons, beq_self_eq_true] at h
      cases h
      by_cases hc : (k' == NameKind.free && env.scope.kind == .function && env.kindOf x == some .cell) = true
      · rw [if_pos hc, if_pos hc, List.lookup_cons, beq_self_eq_true]
      · rw [if_neg hc, if_neg hc, List.lookup_cons, beq_self_eq_true]
    | false =>
      simp only [List.lookup_cons, hx] at h
      by_cases hc : (k' == NameKind.free && env.scope.kind == .function && env.kindOf n == some .cell) = true
      · rw [if_pos hc]; simp only [List.lookup_cons, hx]; exact ih h
      · rw [if_neg hc]; simp only [List.lookup_cons, hx]; exact ih h
theorem lookup_relabel_none {env : Env} : ∀ {names : List (Str × NameKind)} {x : Str}, names.lookup x = none →
    (names.map fun (n, k) => if (k == NameKind.free && env.scope.kind == .function && env.kindOf n == some .cell) then (n, NameKind.cell) else (n, k)).lookup x = none
  | [], _, h => by simp
  | (n, k') :: r, x, h => by
    have ih := @lookup_relabel_none env r x
    show List.lookup x ((if (k' == NameKind.free && env.scope.kind == .function && env.kindOf n == some .cell) = true then (n, NameKind.cell) else (n, k')) :: _) = _
    cases hx : x == n with
    | true => simp [List.lookup_cons, hx] at h
    | false =>
      simp only [List.lookup_cons, hx] at h
      by_cases hc : (k' == NameKind.free && env.scope.kind == .function && env.kindOf n == some .cell) = true
      · rw [if_pos hc]; simp only [List.lookup_cons, hx]; exact ih h
      · rw [if_neg hc]; simp only [List.lookup_cons, hx]; exact ih h

noncomputable def closL (env : Env) : List (Str × NameKind) → List (Str × Addr) → List (Str × Addr)
  | [], acc => acc
  | (n, k) :: r, acc => closL env r (if k == .free then (n, (env.cells.lookup n).getD 0) :: acc else acc)
theorem closL_eq (env : Env) : ∀ (names : List (Str × NameKind)) (acc : List (Str × Addr)), (∀ x ∈ names, x.2 = .free → ∃ c, env.cells.lookup x.1 = some c) →
    (forIn names acc fun x (r : List (Str × Addr)) => (if x.2 == .free then do let c ← cellOf env x.1; pure (ForInStep.yield ((x.1, c) :: r)) else pure (ForInStep.yield r) : Sem (ForInStep (List (Str × Addr))))) = pure (closL env names acc)
  | [], acc, _ => rfl
  | (n, k) :: r, acc, h => by
    rw [List.forIn_cons]
    by_cases hk : k = .free
    · subst hk
      obtain ⟨c, hc⟩ := h _ List.mem_cons_self rfl
      dsimp only at hc
      have e : cellOf env n = pure c := by unfold cellOf; rw [hc]
      simp only [beq_self_eq_true, if_true, e, pure_bind, closL, hc, Option.getD_some]
      exact closL_eq env r _ fun x hx => h x (List.mem_cons_of_mem _ hx)
    · have hb : (k == NameKind.free) = false := by simpa using hk
      simp only [hb, Bool.false_eq_true, if_false, pure_bind, closL]
      exact closL_eq env r _ fun x hx => h x (List.mem_cons_of_mem _ hx)
theorem closureFor_closL {scope : Scope} {env : Env} (h : ∀ x ∈ scope.names, x.2 = .free → ∃ c, env.cells.lookup x.1 = some c) : closureFor scope env = pure (closL env scope.names []) := by
  have e := closL_eq env scope.names [] h
  unfold closureFor
  first
  | exact e
  | (simp only [bind_pure]; exact e)
theorem closL_look (env : Env) (n : Str) : ∀ (names : List (Str × NameKind)) (acc : List (Str × Addr)), ((n, NameKind.free) ∈ names ∨ acc.lookup n = some ((env.cells.lookup n).getD 0)) → (closL env names acc).lookup n = some ((env.cells.lookup n).getD 0)
  | [], acc, h => by
    rcases h with h | h
    · simp at h
    · exact h
  | (m, k) :: r, acc, h => by
    unfold closL
    refine closL_look env n r _ ?_
    by_cases hk : k = .free
    · subst hk
      simp only [beq_self_eq_true, if_true]
      by_cases hm : n = m
      · subst hm; right; simp [List.lookup_cons]
      · rcases h with h | h
        · left
          rcases List.mem_cons.mp h with h | h
          · cases h; exact absurd rfl hm
          · exact h
        · right
          have : (n == m) = false := by simpa using hm
          simp [List.lookup_cons, this, h]
    · have hb : (k == NameKind.free) = false := by simpa using hk
      simp only [hb, Bool.false_eq_true, if_false]
      rcases h with h | h
      · left
        rcases List.mem_cons.mp h with h | h
        · cases h; exact absurd rfl hk
        · exact h
      · right; exact h
theorem mem_of_lookupN {names : List (Str × NameKind)} {x : Str} {k : NameKind} (h : names.lookup x = some k) : (x, k) ∈ names := by
  induction names with
  | nil => simp at h
  | cons p r ih =>
    obtain ⟨n, k'⟩ := p
    rw [List.lookup_cons] at h
    cases hx : x == n with
    | true => rw [hx] at h; cases h; rw [beq_iff_eq.mp hx]; exact List.mem_cons_self
    | false => rw [hx] at h; exact List.mem_cons_of_mem _ (ih h)

/-- the variables of the comprehension's own scope -/
structure CompOk (c : MC) (sc : Scope) (x : Str) (cs : List Str) (caps : List Nat) : Prop where
  kind : sc.kind = .function
  loc : ∀ p ∈ sc.names, p.2 = .local → p.1 = Str.ofString ".0" ∨ p.1 = x
  fre : ∀ p ∈ sc.names, p.2 = .free → p.1 ∈ cs
  nocell : ∀ p ∈ sc.names, p.2 ≠ .cell
  tx : sc.names.lookup x = some .local
  cap : ∀ n ∈ cs, sc.names.lookup n = some .free
  out : ∀ n ∈ cs, c.scope.names.lookup n = some NameKind.cell ∨ c.scope.names.lookup n = some NameKind.free
  names : ∀ y ∈ sc.names, y.2 = .local → sc.names.lookup y.1 = some .local
  cp : ∀ (i j : Nat), caps[i]? = some j → ∃ n, cs[i]? = some n ∧ c.names[j]? = some n

theorem CompOk.outer {c : MC} {sc : Scope} {x : Str} {cs : List Str} {caps : List Nat} {env : Env} (K : CompOk c sc x cs caps) (O : EnvOk c env) {n : Str} (hn : n ∈ cs) : (env.kindOf n = some .cell ∨ env.kindOf n = some .free) ∧ ∃ a, env.cells.lookup n = some a := by
  have h : env.kindOf n = some .cell ∨ env.kindOf n = some .free := by
    rcases K.out n hn with h | h
    · exact .inl (O.cel n h)
    · exact O.fre n h
  exact ⟨h, O.cells n h⟩
theorem CompOk.clos {c : MC} {sc : Scope} {x : Str} {cs : List Str} {caps : List Nat} {env : Env} (K : CompOk c sc x cs caps) (O : EnvOk c env) : closureFor sc env = pure (closL env sc.names []) :=
  closureFor_closL fun p hp hf => (K.outer O (K.fre p hp hf)).2
theorem CompOk.closLook {c : MC} {sc : Scope} {x : Str} {cs : List Str} {caps : List Nat} {env : Env} (K : CompOk c sc x cs caps) (O : EnvOk c env) {n : Str} (hn : n ∈ cs) {a : Addr} (ha : env.cells.lookup n = some a) : (closL env sc.names []).lookup n = some a := by
  rw [closL_look env n sc.names [] (.inl (mem_of_lookupN (K.cap n hn))), ha]; rfl

theorem CompOk.env {c : MC} {sc : Scope} {x : Str} {cs : List Str} {caps : List Nat} {env : Env} (K : CompOk c sc x cs caps) (O : EnvOk c env) (C : Addr) : EnvOk ⟨c.g, sc, x :: cs⟩ (compEnvC sc (closL env sc.names []) C env) where
  kind := K.kind
  globals := O.globals
  builtins := O.builtins
  loc := fun y h => lookup_relabel (env := env) h
  glob := fun y h => lookup_relabel (env := env) h
  cel := fun y h => absurd rfl (K.nocell _ (mem_of_lookupN h))
  fre := fun y h => by
    have := lookup_relabel (env := env) h
    by_cases hc : ((NameKind.free == NameKind.free && env.scope.kind == .function && env.kindOf y == some .cell)) = true
    · rw [if_pos hc] at this; exact .inl this
    · rw [if_neg hc] at this; exact .inr this
  cells := fun y h => by
    have hy : y ∈ cs := by
      cases hl : sc.names.lookup y with
      | none =>
        have := lookup_relabel_none (env := env) hl
        have h' : (compEnvC sc (closL env sc.names []) C env).kindOf y = none := this
        rw [h'] at h; rcases h with h | h <;> cases h
      | some k =>
        have := lookup_relabel (env := env) hl
        have h' : (compEnvC sc (closL env sc.names []) C env).kindOf y = _ := this
        rw [h'] at h
        have hm := mem_of_lookupN hl
        cases k with
        | free => exact K.fre _ hm rfl
        | cell => exact absurd rfl (K.nocell _ hm)
        | _ => simp at h
    obtain ⟨a, ha⟩ := (K.outer O hy).2
    exact ⟨a, K.closLook O hy ha⟩

theorem lget_map {ρ : Loc} : ∀ {caps : List Nat} {i : Nat} {d : V}, lget (caps.map (lget ρ)) i = some d → ∃ j, caps[i]? = some j ∧ lget ρ j = some d
  | [], i, d, h => by simp [lget] at h
  | j :: r, 0, d, h => ⟨j, rfl, h⟩
  | j :: r, i + 1, d, h => by
    obtain ⟨k, a, b⟩ := lget_map (caps := r) h
    exact ⟨k, by simpa using a, b⟩

theorem CompOk.vars {G : GV} {c : MC} {sc : Scope} {x : Str} {cs : List Str} {caps : List Nat} {env : Env} {α : List Addr} {h h' : Heap} {ρ : Loc} {β : List Addr} {C : Addr} {m : Str → Option Value} {v : Value} {d : V}
    (K : CompOk c sc x cs caps) (O : EnvOk c env) (F : FI G c env α h ρ) (k : KeepsH h h') (hn : h'.Ns C m) (hm : m x = some v) (r : Rep G (α ++ β) h' v d) :
    FI G ⟨c.g, sc, x :: cs⟩ (compEnvC sc (closL env sc.names []) C env) (α ++ β) h' (some d :: caps.map (lget ρ)) := by
  intro i y e hy he
  cases i with
  | zero =>
    simp at hy; subst hy
    simp [lget] at he; subst he
    exact ⟨v, .inl ⟨(K.env O C).loc x K.tx, m, hn, hm⟩, r⟩
  | succ i =>
    simp at hy
    obtain ⟨j, hj, hd⟩ := lget_map he
    obtain ⟨n, hn1, hn2⟩ := K.cp i j hj
    have hyn : n = y := by rw [hn1] at hy; exact Option.some.inj hy
    rw [hyn] at hn1 hn2
    have hmem : y ∈ cs := List.mem_of_getElem? hn1
    obtain ⟨u, hu, ru⟩ := F j y e hn2 hd
    refine ⟨u, ?_, ru.up k⟩
    obtain ⟨hk, a, ha⟩ := K.outer O hmem
    rcases hu with ⟨hl, _⟩ | ⟨_, cc, hc, hv⟩
    · rcases hk with hk | hk <;> rw [hk] at hl <;> cases hl
    · rw [ha] at hc; cases hc
      exact .inr ⟨(K.env O C).fre y (K.cap y hmem), a, K.closLook O hmem ha, isCell_keeps hv k⟩
end Mine

set_option autoImplicit false
set_option linter.unusedSimpArgs false
set_option linter.unusedVariables false
namespace Mine
open PySem PyProof.Rows PySem.Calls

section
variable {X : SX} {c : MC}

noncomputable def SIfs (X : SX) (c : MC) (po : PO) (ifs : List Expr) : Prop :=
  match po with
  | .no => ifs = []
  | .some pe => ∃ e, ifs = [e] ∧ SC X c pe e

theorem ifs_sound {po : PO} {ifs : List Expr} (h : SIfs X c po ifs) (env : Env) (s : Shared) (α : List Addr) (ρ : Loc) (H : Hp) (Q : Bool → Hp → Prop) (E : Value → Shared → Prop) (O : EnvOk c env) (T : GF X.G c.g X.DT s.heap) (R : HR X.G α s.heap H)
    (F : FI X.G c env α s.heap ρ) (q : wpO X.sub X.Φ po ρ H fun c H3 => ifSome (match c with | some c => truthV H3 c | none => some true) fun t => Q t H3) :
    wpAny (model X.prog X.w) X.A (forIn ifs true fun c r => if r = true then do let ok ← isTrue c env (eval c env); pure (ForInStep.yield ok) else pure (ForInStep.yield r)) (Post X.G (fun _ _ a b => a = b) s α H Q) E s := by
  cases po with
  | no =>
    cases h
    simp only [qO1, qO2] at q
    exact wpAny_pure (Post.same' (d := true) R rfl q)
  | some pe =>
    obtain ⟨e, rfl, h⟩ := h
    simp only [qO1, qO2] at q
    rw [List.forIn_cons]
    simp only [if_true]
    refine wpAny_bind (wpAny_bind (wpAny_mono (h env s α ρ H Q E O T R F q) (fun b s₁ p => wpAny_pure ?_) fun _ _ x => x))
    simp only [List.forIn_nil]
    exact wpAny_pure p

/-- the state behind a comprehension's loop -/
noncomputable def CompEnd (X : SX) (s : Shared) (α : List Addr) (H : Hp) (Q : List V → Hp → Prop) (D C : Addr) (s' : Shared) : Prop :=
  ∃ h' tk β K ys ds m, s' = { s with heap := h', toks := tk } ∧ KeepsH s.heap h' ∧ (∀ b ∈ β, s.heap.get? b = none) ∧ HR X.G (α ++ β) h' (H ++ K) ∧ s.heap.get? D = none ∧ s.heap.get? C = none ∧ D ≠ C ∧ D ∉ α ++ β ∧
    h'.PlainList D ys.toArray ∧ Reps X.G (α ++ β) h' ys ds ∧ ds.length ≤ lim ∧ h'.Ns C m ∧ Q ds (H ++ K)

theorem comp_core {elt : Expr} {iter : Expr} {x : Str} {px pos : Pos} {ifs : List Expr} {sc : Scope} {cs : List Str} {pelt : PE} {caps : List Nat} {cond : PO}
    (K : CompOk c sc x cs caps) (h1 : SE X ⟨c.g, sc, x :: cs⟩ pelt elt) (h2 : SIfs X ⟨c.g, sc, x :: cs⟩ cond ifs)
    (env : Env) (s : Shared) (α : List Addr) (ρ : Loc) (H : Hp) (Q : List V → Hp → Prop) (E : Value → Shared → Prop) (O : EnvOk c env) (T : GF X.G c.g X.DT s.heap) (F : FI X.G c env α s.heap ρ)
    (it : Value) (s₂ : Shared)
    (hit : ItPost X s α H (fun xs _ H1 => xs.length ≤ lim ∧ compGo (fun x H2 k => ifSome (bindT 1 x) fun ρt =>
      wpO X.sub X.Φ cond (ρt ++ caps.map (lget ρ)) H2 fun c H3 => ifSome (match c with | some c => truthV H3 c | none => some true) fun t =>
        if t then wpE X.sub X.Φ pelt (ρt ++ caps.map (lget ρ)) H3 fun y H4 => k (some y) H4 else k none H3) xs H1 Q) it s₂)
    (RR : Value → Addr → Result → Shared → Prop) (hRR : ∀ D C s', CompEnd X s α H Q D C s' → RR (.ref D) C (.ok .next) s') :
    wpAny (model X.prog X.w) X.A (newList []) (fun acc s₃ => wpAny (model X.prog X.w) X.A (newFunctionEnv sc env.globals (closL env sc.names []) [] env.qual none .none (some env)) (fun cenv s₄ =>
      codeAny (model X.prog X.w) X.A (.compStart (.ListComp elt [⟨.Name x px, iter, ifs, 0⟩] sc pos) 0 it acc { cenv with scope := relabel sc env }) (RR acc cenv.locals) s₄) E s₃) E s₂ := by
  obtain ⟨h₁, tk₁, β₁, K₁, xs, src, k₁, f₁, R₁, ⟨I, fp, wr, P, St, h₂, tk₂, rfl, rfl, k₂, W, hst, hwr, hfield, hfp, hsrc, hP⟩, hlen, hgo⟩ := hit
  dsimp only at k₂ hwr
  refine wpAny_newObj_type (wpAny_newFunctionEnv K.nocell (by intro y hy; simp at hy) (fun h₃ hns₃ hsb₃ => ?_) K.kind)
  dsimp only at hns₃ hsb₃ ⊢
  generalize hH2 : h₂.push { cls := .type "list", dict := none, data := .seq ([] : List Value).toArray } = H2 at hns₃ hsb₃ ⊢
  have hC : H2.objs.size = h₂.objs.size + 1 := by rw [← hH2, Heap.size_push]
  have hDC : h₂.objs.size ≠ H2.objs.size := by rw [hC]; exact Nat.ne_of_lt (Nat.lt_succ_self _)
  generalize hCC : H2.objs.size = C at hns₃ hsb₃ hDC hC ⊢
  generalize hDD : h₂.objs.size = D at hDC hC ⊢
  have deadD : h₂.get? D = none := by rw [← hDD]; exact size_none _
  have deadC : h₂.get? C = none := by
    cases e : h₂.get? C with
    | none => rfl
    | some o => exact absurd (Heap.lt_size e) (by rw [hDD, hC]; exact Nat.not_lt.mpr (Nat.le_succ _))
  have aliveNe : ∀ b o, h₂.get? b = some o → b ≠ D ∧ b ≠ C := fun b o e => ⟨fun q => (by rw [q, deadD] at e; cases e), fun q => (by rw [q, deadC] at e; cases e)⟩
  have old : KeepsH h₂ h₃ := fun b o e => hsb₃.extBut b o (aliveNe b o e).2 (Heap.get?_push_of_some _ (hH2 ▸ Heap.get?_push_of_some _ e))
  have hacc : h₃.PlainList D ([] : List Value).toArray := ⟨_, hsb₃.extBut _ _ hDC (Heap.get?_push_of_some _ (hH2 ▸ hDD ▸ Heap.get?_push_size _ rfl))⟩
  have hst₃ : St 0 h₃ := W.frame _ _ _ hst fun b _ o e => old b o e
  have hDf : D ∉ fp := fun hm => by obtain ⟨o, e⟩ := hfp _ hm; rw [deadD] at e; cases e
  have hCf : C ∉ fp := fun hm => by obtain ⟨o, e⟩ := hfp _ hm; rw [deadC] at e; cases e
  have hDw : D ∉ wr := fun hm => hDf (W.sub _ hm)
  have hCw : C ∉ wr := fun hm => hCf (W.sub _ hm)
  have deadS : ∀ b, h₁.get? b = none → s.heap.get? b = none := fun b e => by
    cases e' : s.heap.get? b with
    | none => rfl
    | some o => have := k₁ b o e'; rw [e] at this; cases this
  have deadS2 : ∀ b, h₂.get? b = none → s.heap.get? b = none := fun b e => deadS b (by
    cases e' : h₁.get? b with
    | none => rfl
    | some o => have := k₂ b o e'; rw [e] at this; cases this)
  -- whatever keeps h₂ off wr keeps s
  have keepS : ∀ h' : Heap, (∀ b o, b ∉ wr → h₂.get? b = some o → h'.get? b = some o) → KeepsH s.heap h' := fun h' hk b o e =>
    hk b o (fun hm => by have := hwr b hm; rw [k₁ b o e] at this; cases this) (k₂ b o (k₁ b o e))
  have keepT : ∀ h' : Heap, (∀ b o, b ∉ wr → h₂.get? b = some o → h'.get? b = some o) → KeepsT h₂ h' := fun h' hk => by
    refine KeepsLT.tup fun a o items n e d => hk a o (fun hm => ?_) e
    obtain ⟨o', vs, e', d'⟩ := hfield 0 h₂ hst a hm
    rw [e] at e'; cases e'; rw [d] at d'; cases d'
  have D₁ : D ∉ α ++ β₁ := fun hm => by
    obtain ⟨n, hn⟩ := List.mem_iff_getElem?.mp hm
    obtain ⟨ys, hy⟩ := R₁.at hn
    obtain ⟨us, ⟨o, ho, _⟩, _⟩ := R₁.lst n D ys hn hy
    have := k₂ _ _ ho; rw [deadD] at this; cases this
  let step : V → Hp → (Option V → Hp → Prop) → Prop := fun x H2 k => ifSome (bindT 1 x) fun ρt =>
      wpO X.sub X.Φ cond (ρt ++ caps.map (lget ρ)) H2 fun c H3 => ifSome (match c with | some c => truthV H3 c | none => some true) fun t =>
        if t then wpE X.sub X.Φ pelt (ρt ++ caps.map (lget ρ)) H3 fun y H4 => k (some y) H4 else k none H3
  let Inv : Nat → Shared → Prop := fun n s' => ∃ i h' tk γ KK ys ds m, s' = { s with heap := h', toks := tk } ∧ i ≤ xs.length ∧ n = xs.length + 1 - i ∧ St i h' ∧ (∀ b o, b ∉ wr → h₂.get? b = some o → h'.get? b = some o) ∧
    (∀ b ∈ β₁ ++ γ, s.heap.get? b = none) ∧ D ∉ α ++ (β₁ ++ γ) ∧ HR X.G (α ++ (β₁ ++ γ)) h' (H ++ KK) ∧ h'.PlainList D ys.toArray ∧ Reps X.G (α ++ (β₁ ++ γ)) h' ys ds ∧ ds.length ≤ i ∧ h'.Ns C m ∧
    compGo step (xs.drop i) (H ++ KK) (fun r H2 => Q (ds ++ r) H2)
  have loop : ∀ s₃ : Shared, s₃ = { s with heap := h₃, toks := tk₂ + ([] : List (Str × Value)).length } →
      codeAny (model X.prog X.w) X.A (.compLoop (.ListComp elt [⟨.Name x px, iter, ifs, 0⟩] sc pos) 0 (.ref I) (.ref D) (compEnvC sc (closL env sc.names []) C env)) (RR (.ref D) C) s₃ := by
    rintro s₃ rfl
    refine codeAny_compLoop_tests Inv ?_ (xs.length + 1) ⟨0, h₃, _, [], K₁, [], [], _, rfl, Nat.zero_le _, rfl, hst₃, fun b o _ e => old b o e, by simpa using f₁, by simpa using D₁, ?_, hacc, .nil, Nat.le_refl _, hns₃, ?_⟩
    · rintro n s' ⟨i, h', tk, γ, KK, ys, ds, m, rfl, hi, rfl, hsti, hkeep, hfresh, hD', R', hpl, rys, hdl, hns, hgo'⟩
      by_cases hlt : i < xs.length
      · refine W.item i _ _ _ hlt hsti fun v h'' tk' hPv hst'' hk'' => ?_
        have lt1 : KeepsLT h' h'' := fun a o items n e d => hk'' a o (fun hm => by
          obtain ⟨o', vs, e', d'⟩ := hfield i h' hsti a hm
          rw [e] at e'; cases e'; rw [d] at d'; cases d') e
        have hns'' : h''.Ns C m := hns.at' fun o e => hk'' C o hCw e
        refine wpAny_assign_Name (wpAny_storeName_local ((K.env O C).loc x K.tx) hns'' (fun h₄ hns₄ hsb₄ => ?_) (by simp [compEnvC, relabel, K.kind]))
        have lt2 : KeepsLT h'' h₄ := KeepsLT.sameBut hsb₄ (ns_notSeq hns'')
        have hkeep₄ : ∀ b o, b ∉ wr → h₂.get? b = some o → h₄.get? b = some o := fun b o hb e => hsb₄.extBut b o (aliveNe b o e).2 (hk'' b o hb (hkeep b o hb e))
        have st₄ : St (i + 1) h₄ := W.frame _ _ _ hst'' fun b hb o e => hsb₄.extBut b o (fun (q : b = C) => hCf (q ▸ hb)) e
        have R₄ := (R'.lt' lt1).lt' lt2
        have kS := keepS h₄ hkeep₄
        obtain ⟨d, hd, rd⟩ := hP i v hlt hPv
        have rd₄ : Rep X.G (α ++ (β₁ ++ γ)) h₄ v d := by
          have := rd.mono (α' := (α ++ β₁) ++ γ) ext_app (keepT h₄ hkeep₄)
          rwa [List.append_assoc] at this
        have hdrop : xs.drop i = d :: xs.drop (i + 1) := by
          obtain ⟨hl, he⟩ := List.getElem?_eq_some_iff.mp hd
          rw [List.drop_eq_getElem_cons hl, he]
        rw [hdrop] at hgo'
        simp only [compGo] at hgo'
        obtain ⟨ρt, hρ, hgo'⟩ := ifSome.get hgo'
        simp only [bindT, Option.some.injEq] at hρ
        subst hρ
        have FI₄ := K.vars O F kS hns₄ (if_pos rfl) rd₄
        have T₄ : GF X.G c.g X.DT h₄ := T.keeps kS
        refine wpAny_mono (ifs_sound h2 (compEnvC sc (closL env sc.names []) C env) { s with heap := h₄, toks := tk' + 1 } (α ++ (β₁ ++ γ)) _ (H ++ KK) _ _ (K.env O C) T₄ R₄ FI₄ hgo') (fun ok s₅ p => ?_) fun _ _ x => x
        obtain ⟨h₅, tk₅, γ₅, K₅, t, rfl, k₅, f₅, R₅, rfl, q₅⟩ := p
        dsimp only at k₅ f₅
        have hD5 : D ∉ (α ++ (β₁ ++ γ)) ++ γ₅ := fun hm => by
          rcases List.mem_append.mp hm with hm | hm
          · exact hD' hm
          · have := f₅ _ hm
            obtain ⟨nn, hh⟩ := lt2.plain (lt1.plain hpl)
            rw [hh] at this; cases this
        have fr5 : ∀ b ∈ β₁ ++ (γ ++ γ₅), s.heap.get? b = none := fun b hb => by
          rw [← List.append_assoc] at hb
          rcases List.mem_append.mp hb with hb | hb
          · exact hfresh b hb
          · cases e : s.heap.get? b with
            | none => rfl
            | some o => have := kS b o e; rw [f₅ b hb] at this; cases this
        have keep5 : ∀ b o, b ∉ wr → h₂.get? b = some o → h₅.get? b = some o := fun b o hb e => k₅ b o (hkeep₄ b o hb e)
        have ns5 := hns₄.keeps k₅
        have st5 : St (i + 1) h₅ := W.frame _ _ _ st₄ fun b _ o e => k₅ b o e
        have pl5 : h₅.PlainList D ys.toArray := plainList_keeps (lt2.plain (lt1.plain hpl)) k₅
        have rys5 : Reps X.G ((α ++ (β₁ ++ γ)) ++ γ₅) h₅ ys ds := ((rys.mono (fun _ _ e => e) (lt1.trans lt2).tup).up k₅)
        cases ok with
        | false =>
          simp only [Bool.false_eq_true, if_false] at q₅ ⊢
          refine ⟨xs.length + 1 - (i + 1), by omega, i + 1, h₅, tk₅, γ ++ γ₅, KK ++ K₅, ys, ds, _, rfl, hlt, rfl, st5, keep5, fr5, by simpa using hD5, by simpa using R₅, pl5, by simpa using rys5, by omega, ns5, ?_⟩
          simpa using q₅
        | true =>
          simp only [if_true] at q₅ ⊢
          refine wpAny_mono (h1 (compEnvC sc (closL env sc.names []) C env) { s with heap := h₅, toks := tk₅ } ((α ++ (β₁ ++ γ)) ++ γ₅) _ ((H ++ KK) ++ K₅) _ _ (K.env O C) (T₄.keeps k₅) R₅ (FI₄.up k₅) q₅) (fun y s₆ p => ?_) fun _ _ x => x
          obtain ⟨h₆, tk₆, γ₆, K₆, e, rfl, k₆, f₆, R₆, r₆, q₆⟩ := p
          dsimp only at k₆ f₆
          have pl6 := plainList_keeps pl5 k₆
          have hlen6 : ys.length ≤ lim := by rw [rys5.len]; omega
          refine wpAny_list_append_plain (s := { s with heap := h₆, toks := tk₆ }) pl6 (fun h₇ pl7 hsb₇ => ?_) (by simp; have := lim_le; omega)
          have hD6 : D ∉ ((α ++ (β₁ ++ γ)) ++ γ₅) ++ γ₆ := fun hm => by
            rcases List.mem_append.mp hm with hm | hm
            · exact hD5 hm
            · have := f₆ _ hm
              obtain ⟨nn, hh⟩ := pl5
              rw [hh] at this; cases this
          have fr6 : ∀ b ∈ β₁ ++ (γ ++ γ₅ ++ γ₆), s.heap.get? b = none := fun b hb => by
            rw [← List.append_assoc] at hb
            rcases List.mem_append.mp hb with hb | hb
            · exact fr5 b hb
            · cases e : s.heap.get? b with
              | none => rfl
              | some o => have := k₅ b o (kS b o e); rw [f₆ b hb] at this; cases this
          -- only D is written
          have nD : ∀ b ∈ (((α ++ (β₁ ++ γ)) ++ γ₅) ++ γ₆), b ≠ D := fun b hb q => hD6 (q ▸ hb)
          have tup7 : KeepsT h₆ h₇ := fun a items x => x.extBut hsb₇.extBut fun q => by
            subst q
            obtain ⟨o, ho, hc, _⟩ := x
            obtain ⟨nn, hh⟩ := pl6
            rw [hh] at ho; cases ho; simp at hc
          have R₇ : HR X.G (((α ++ (β₁ ++ γ)) ++ γ₅) ++ γ₆) h₇ (((H ++ KK) ++ K₅) ++ K₆) :=
            ⟨R₆.len, R₆.nodup, R₆.pos, fun n a xs e1 e2 => by
              obtain ⟨vs, l, q, z, p⟩ := R₆.lst n a xs e1 e2
              have hne := nD a (List.mem_of_getElem? e1)
              exact ⟨vs, l.extBut hsb₇.extBut hne, q.mono (fun _ _ e => e) tup7, z, fun hn => let ⟨n', e'⟩ := p hn; ⟨n', hsb₇.extBut _ _ hne e'⟩⟩⟩
          have aliveD : ∀ b o, h₂.get? b = some o → b ≠ D := fun b o e => (aliveNe b o e).1
          have ns7 := (ns5.keeps k₆).extBut hsb₇.extBut (Ne.symm hDC)
          refine ⟨xs.length + 1 - (i + 1), by omega, i + 1, h₇, tk₆, γ ++ γ₅ ++ γ₆, KK ++ K₅ ++ K₆, ys ++ [y], ds ++ [e], _, rfl, hlt, rfl, ?_, ?_, fr6, by simpa using hD6, by simpa using R₇, ?_, ?_, by simp; omega, ns7, ?_⟩
          · exact W.frame _ _ _ st5 fun b hb o eo => hsb₇.extBut b o (fun q => hDf (q ▸ hb)) (k₆ b o eo)
          · exact fun b o hb eo => hsb₇.extBut b o (aliveD b o eo) (k₆ b o (keep5 b o hb eo))
          · simpa using pl7
          · have : Reps X.G (((α ++ (β₁ ++ γ)) ++ γ₅) ++ γ₆) h₆ (ys ++ [y]) (ds ++ [e]) := (rys5.up k₆).append (.cons r₆ .nil)
            simpa using this.mono (fun _ _ e => e) tup7
          · simpa using q₆
      · have hin : i = xs.length := by omega
        subst hin
        refine W.done _ _ _ hsti fun h'' tk' hk'' => ?_
        have lt1 : KeepsLT h' h'' := fun a o items n e d => hk'' a o (fun hm => by
          obtain ⟨o', vs, e', d'⟩ := hfield _ h' hsti a hm
          rw [e] at e'; cases e'; rw [d] at d'; cases d') e
        refine hRR D C _ ⟨h'', tk', β₁ ++ γ, KK, ys, ds, m, rfl, keepS h'' fun b o hb e => hk'' b o hb (hkeep b o hb e), hfresh, R'.lt' lt1, deadS2 _ deadD, deadS2 _ deadC, hDC, hD', lt1.plain hpl, rys.mono (fun _ _ e => e) lt1.tup, by omega, hns.at' fun o e => hk'' C o hCw e, ?_⟩
        simpa [compGo] using hgo'
    · simpa using (R₁.keeps k₂).keeps old
    · simp only [List.drop_zero, List.nil_append]; exact hgo
  exact codeAny_compStart_list (loop _ rfl) (W.self 0 _ _ _ hst₃ (loop _ rfl))
end
end Mine

set_option autoImplicit false
set_option linter.unusedSimpArgs false
set_option linter.unusedVariables false
namespace Mine
open PySem PyProof.Rows PySem.Calls

noncomputable def notSet (e : Expr) : Bool := match e with | .Set .. => false | _ => true
theorem folded_pure {e : Expr} (h : notSet e = true) (env : Env) (x : Value) : foldedSetIterable e env x = pure x := by
  cases e <;> first | rfl | cases h

section
variable {X : SX} {c : MC}

theorem compEnd_post {s : Shared} {α : List Addr} {H : Hp} {Q : V → Hp → Prop} {D C : Addr} {s' : Shared} (p : CompEnd X s α H (fun ys H5 => Q (.lst H5.length) (H5 ++ [ys])) D C s') {h'' : Heap} (hs : Heap.SameBut C s'.heap h'') :
    Post X.G (Rep X.G) s α H Q (.ref D) { s' with heap := h'' } := by
  obtain ⟨h', tk, β, K, ys, ds, m, rfl, k, f, R, dD, dC, hDC, hD, hpl, rys, z, hn, q⟩ := p
  have lt : KeepsLT h' h'' := KeepsLT.sameBut hs (ns_notSeq hn)
  have kk : KeepsH s.heap h'' := fun b o e => hs.extBut b o (fun q => by rw [q, dC] at e; cases e) (k b o e)
  have R' := R.lt' lt
  refine ⟨h'', tk, β ++ [D], K ++ [ds], .lst (H ++ K).length, rfl, kk, ?_, ?_, ?_, by simpa using q⟩
  · intro b hb
    rcases List.mem_append.mp hb with hb | hb
    · exact f b hb
    · simp at hb; subst hb; exact dD
  · have := R'.push (.refl _) hD (lt.plain hpl) (rys.mono (fun _ _ e => e) lt.tup) z
    simpa using this
  · refine Rep.lst ?_
    rw [← R.len, ← List.append_assoc, List.getElem?_append_right (Nat.le_refl _)]; simp

theorem se_comp {elt iter : Expr} {x : Str} {px pos : Pos} {ifs : List Expr} {sc : Scope} {cs : List Str} {pelt : PE} {caps : List Nat} {pit : PI} {cond : PO}
    (K : CompOk c sc x cs caps) (h1 : SE X ⟨c.g, sc, x :: cs⟩ pelt elt) (h2 : SIfs X ⟨c.g, sc, x :: cs⟩ cond ifs) (h3 : SI X c pit iter) (hns : notSet iter = true) :
    SE X c (.comp pelt 1 caps pit cond) (.ListComp elt [⟨.Name x px, iter, ifs, 0⟩] sc pos) := fun env s α ρ H Q E O T R F q => by
  simp only [qE1, qE2, qE3, qE4, qE5, qE6, qE7, qE8, qE9, qE10, qE11, qE12, qE13, qE14, qE15, qE16, qE17, qE18, qE19, qE20, qE21, qE22] at q
  rw [eval_ListComp]
  refine wpAny_comprehension_free (use := none) rfl (folded_pure hns env) (K.clos O) K.kind K.names (wpAny_mono (h3 env s α ρ H _ E O T R F q) (fun xv s₁ p => wpAny_mono p (fun it s₂ p => ?_) fun _ _ e => e) fun _ _ e => e)
  refine comp_core K h1 h2 env s α ρ H _ E O T F it s₂ p (fun acc C => compPost (model X.prog X.w) X.A E none (Post X.G (Rep X.G) s α H Q) acc C) fun D C s' p => ?_
  obtain ⟨m, hm⟩ : ∃ m, s'.heap.Ns C m := by obtain ⟨h', tk, β, K, ys, ds, m, rfl, k, f, R, dD, dC, hDC, hD, hpl, rys, z, hn, q⟩ := p; exact ⟨m, hn⟩
  exact ⟨m, hm, fun h' hs => compEnd_post p hs⟩

theorem se_idx {a b : PE} {x i : Expr} {pos : Pos} (hs : (match i with | .Slice .. => false | _ => true) = true) (h1 : SE X c a x) (h2 : SE X c b i) : SE X c (.idx a b) (.Subscript x i pos) := fun env s α ρ H Q E O T R F q => by
  simp only [qE1, qE2, qE3, qE4, qE5, qE6, qE7, qE8, qE9, qE10, qE11, qE12, qE13, qE14, qE15, qE16, qE17, qE18, qE19, qE20, qE21, qE22] at q
  refine Subscript_ (two h1 h2 O T R F (Q := fun x y H2 => idxWp x y H2 Q) q fun h' tk β K u v x y k f R' ru rv q' => ?_)
  refine wpAny_mono (idx_sound (s := { s with heap := h', toks := tk }) (fun o i' => ?_) R' ru rv q') (fun _ _ p => p.trans k f) fun _ _ x => x
  cases i <;> first | rfl | cases hs

noncomputable def SO (X : SX) (c : MC) (po : PO) (o : Option Expr) : Prop :=
  match po with
  | .no => o = none
  | .some pe => ∃ e, o = some e ∧ SE X c pe e

/-- a slice's end -/
theorem so_sound {po : PO} {o : Option Expr} (h : SO X c po o) (env : Env) (s : Shared) (α : List Addr) (ρ : Loc) (H : Hp) (Q : Option V → Hp → Prop) (E : Value → Shared → Prop) (O : EnvOk c env) (T : GF X.G c.g X.DT s.heap) (R : HR X.G α s.heap H)
    (F : FI X.G c env α s.heap ρ) (q : wpO X.sub X.Φ po ρ H Q) :
    wpAny (model X.prog X.w) X.A (valueOrNone (evalOpt o env)) (Post X.G (fun α h v (d : Option V) => match d with | none => v = .none | some d => Rep X.G α h v d) s α H Q) E s := by
  cases po with
  | no =>
    cases h
    simp only [qO1, qO2] at q
    exact wpAny_pure (Post.same' (d := none) R rfl q)
  | some pe =>
    obtain ⟨e, rfl, h⟩ := h
    simp only [qO1, qO2] at q
    refine wpAny_mono (h env s α ρ H _ E O T R F q) (fun v s₁ p => ?_) fun _ _ x => x
    obtain ⟨h₁, tk₁, β, K, d, e, k, f, R', r, q⟩ := p
    exact ⟨h₁, tk₁, β, K, some d, e, k, f, R', r, q⟩

theorem slc_ends {x : V} {lo hi : Option V} {H : Hp} {Q : V → Hp → Prop} (q : slcWp x lo hi H Q) : (lo = none ∨ ∃ a, lo = some (.int a)) ∧ (hi = none ∨ ∃ a, hi = some (.int a)) := by
  unfold slcWp at q
  split at q
  · rcases q with ⟨a, e1, e2, _⟩ | ⟨e1, e2, _⟩
    · exact ⟨.inr ⟨a, e1⟩, .inl e2⟩
    · exact ⟨.inl e1, .inr ⟨_, e2⟩⟩
  · obtain ⟨xs, _, q⟩ := ifSome.get q
    obtain ⟨p, hc, _⟩ := ifSome.get q
    unfold cutAt at hc
    split at hc
    · exact ⟨.inr ⟨_, rfl⟩, .inr ⟨_, rfl⟩⟩
    · exact ⟨.inl rfl, .inr ⟨_, rfl⟩⟩
    · exact ⟨.inr ⟨_, rfl⟩, .inl rfl⟩
    · exact ⟨.inl rfl, .inl rfl⟩
    · cases hc
  · exact q.elim

theorem se_slc {a : PE} {lo hi : PO} {x : Expr} {l h : Option Expr} {p pos : Pos} (h1 : SE X c a x) (h2 : SO X c lo l) (h3 : SO X c hi h) : SE X c (.slc a lo hi) (.Subscript x (.Slice l h none p) pos) := fun env s α ρ H Q E O T R F q => by
  simp only [qE1, qE2, qE3, qE4, qE5, qE6, qE7, qE8, qE9, qE10, qE11, qE12, qE13, qE14, qE15, qE16, qE17, qE18, qE19, qE20, qE21, qE22] at q
  refine Subscript_ (wpAny_mono (h1 env s α ρ H _ E O T R F q) (fun u s₁ p₁ => ?_) fun _ _ x => x)
  refine p₁.go fun h₁ tk₁ β₁ K₁ d₁ k₁ f₁ R₁ r₁ q₁ => ?_
  rw [arm_eval_Slice]
  refine wpAny_bind (wpAny_mono (so_sound h2 env { s with heap := h₁, toks := tk₁ } (α ++ β₁) ρ (H ++ K₁) _ E O (T.keeps k₁) R₁ (F.up k₁) q₁) (fun lv s₂ p₂ => ?_) fun _ _ x => x)
  refine p₂.go fun h₂ tk₂ β₂ K₂ d₂ k₂ f₂ R₂ r₂ q₂ => ?_
  dsimp only at k₂ f₂ ⊢
  refine wpAny_bind (wpAny_holding (wpAny_mono (so_sound h3 env { s with heap := h₂, toks := tk₂ } (α ++ β₁ ++ β₂) ρ (H ++ K₁ ++ K₂) _ E O (T.keeps (k₁.trans k₂)) R₂ ((F.up k₁).up k₂) q₂) (fun hv s₃ p₃ => ?_) fun _ _ x => x))
  refine p₃.go fun h₃ tk₃ β₃ K₃ d₃ k₃ f₃ R₃ r₃ q₃ => ?_
  dsimp only at k₃ f₃ ⊢
  refine wpAny_bind (wpAny_holding (wpAny_pure ?_))
  refine wpAny_newObj_type ?_ (by show Array.size _ ≤ _; rw [sizeLine_eq]; simp)
  dsimp only
  have k4 := keeps_push h₃ { cls := .type "slice", data := .fields #[lv, hv, .none] }
  have kk : KeepsH s.heap (h₃.push { cls := .type "slice", data := .fields #[lv, hv, .none] }) := ((k₁.trans k₂).trans k₃).trans k4
  have ff : ∀ b ∈ β₁ ++ β₂ ++ β₃, s.heap.get? b = none := fun b hb => by
    rcases List.mem_append.mp hb with hb | hb
    · rcases List.mem_append.mp hb with hb | hb
      · exact f₁ b hb
      · cases e : s.heap.get? b with
        | none => rfl
        | some o => have := k₁ b o e; rw [f₂ b hb] at this; cases this
    · cases e : s.heap.get? b with
      | none => rfl
      | some o => have := k₂ b o (k₁ b o e); rw [f₃ b hb] at this; cases this
  have ru : Rep X.G (α ++ (β₁ ++ β₂ ++ β₃)) (h₃.push { cls := .type "slice", data := .fields #[lv, hv, .none] }) u d₁ := by
    have := ((r₁.up (β := β₂) k₂).up (β := β₃) k₃).mono (fun _ _ e => e) (.of k4)
    simpa using this
  have R4 : HR X.G (α ++ (β₁ ++ β₂ ++ β₃)) (h₃.push { cls := .type "slice", data := .fields #[lv, hv, .none] }) (H ++ (K₁ ++ K₂ ++ K₃)) := by
    have := R₃.keeps k4
    simpa using this
  have q4 : slcWp d₁ d₂ d₃ (H ++ (K₁ ++ K₂ ++ K₃)) Q := by simpa using q₃
  obtain ⟨e2, e3⟩ := slc_ends q4
  have lo' : (lv = .none ∧ d₂ = none) ∨ ∃ a ta, lv = .int a ta ∧ d₂ = some (.int a) := by
    rcases e2 with rfl | ⟨a, rfl⟩
    · exact .inl ⟨r₂, rfl⟩
    · cases r₂ with | int i t => exact .inr ⟨_, t, rfl, rfl⟩
  have hi' : (hv = .none ∧ d₃ = none) ∨ ∃ a ta, hv = .int a ta ∧ d₃ = some (.int a) := by
    rcases e3 with rfl | ⟨a, rfl⟩
    · exact .inl ⟨r₃, rfl⟩
    · cases r₃ with | int i t => exact .inr ⟨_, t, rfl, rfl⟩
  exact wpAny_mono (slc_sound (s := { s with heap := h₃.push { cls := .type "slice", data := .fields #[lv, hv, .none] }, toks := tk₃ }) (fun _ _ => rfl) R4 ru (Heap.IsSliceOf.new h₃ lv hv .none) lo' hi' q4) (fun _ _ p => p.trans kk ff) fun _ _ x => x
end
end Mine

set_option autoImplicit false
set_option linter.unusedSimpArgs false
set_option linter.unusedVariables false
namespace Mine
open PySem PyProof.Rows PySem.Calls

theorem isGlob_of_isNm {c : MC} {e : Expr} {x : Str} (h : c.isNm e x = true) : ∃ p, e = .Name x p ∧ c.isGlob x = true := MC.isNm_spec h

theorem mem_abs : (Str.ofString "abs") ∈ bltNames := by simp [bltNames]
theorem mem_len : (Str.ofString "len") ∈ bltNames := by simp [bltNames]
theorem mem_int : (Str.ofString "int") ∈ bltNames := by simp [bltNames]
theorem mem_list : (Str.ofString "list") ∈ bltNames := by simp [bltNames]
theorem mem_tuple : (Str.ofString "tuple") ∈ bltNames := by simp [bltNames]
theorem mem_min : (Str.ofString "min") ∈ bltNames := by simp [bltNames]

section
variable {X : SX} {c : MC}

theorem se_bi {b : Bi} {f : Expr} {ps : PEs} {e : Expr} {es : List Expr} {pos : Pos} (hA : AOk X.A) (hb : b ≠ .listrev) (hf : c.isNm f (biName b) = true) (hn : noStar (e :: es) = true) (h : SEs X c ps (e :: es)) : SE X c (.bi b ps) (.Call f (e :: es) [] pos) := fun env s α ρ H Q E O T R F q => by
  obtain ⟨p, rfl, hx⟩ := isGlob_of_isNm hf
  simp only [qE1, qE2, qE3, qE4, qE5, qE6, qE7, qE8, qE9, qE10, qE11, qE12, qE13, qE14, qE15, qE16, qE17, qE18, qE19, qE20, qE21, qE22] at q
  cases b with
  | abs => exact call_b bootAbs (mem_abs) hx hn h O T R F q fun h' tk β K vs ds k R' r q' => bi_sound (b := .abs) (s := { s with heap := h', toks := tk }) hA R' r q'
  | len => exact call_b bootLen (mem_len) hx hn h O T R F q fun h' tk β K vs ds k R' r q' => bi_sound (b := .len) (s := { s with heap := h', toks := tk }) hA R' r q'
  | int => exact call_t bootInt (mem_int) hx hn h O T R F q fun h' tk β K vs ds k R' r q' => bi_sound (b := .int) (s := { s with heap := h', toks := tk }) hA R' r q'
  | list => exact call_t bootList (mem_list) hx hn h O T R F q fun h' tk β K vs ds k R' r q' => bi_sound (b := .list) (s := { s with heap := h', toks := tk }) hA R' r q'
  | tuple => exact call_t bootTuple (mem_tuple) hx hn h O T R F q fun h' tk β K vs ds k R' r q' => bi_sound (b := .tuple) (s := { s with heap := h', toks := tk }) hA R' r q'
  | min => exact call_b bootMin (mem_min) hx hn h O T R F q fun h' tk β K vs ds k R' r q' => bi_sound (b := .min) (s := { s with heap := h', toks := tk }) hA R' r q'
  | listrev => exact absurd rfl hb

noncomputable def tyStr : Ty → String
  | .int => "int" | .bool => "bool" | .tuple => "tuple" | .list => "list" | .cls _ => ""

theorem isi_sound {prog : Program} {w : World} {A : Around} {E : Value → Shared → Prop} {s : Shared} {G : GV} {α : List Addr} {H : Hp} {Q : V → Hp → Prop} {u : Value} {x : V} {t : Ty} {b : Bool} {sub : Nat → Nat → Bool}
    (R : HR G α s.heap H) (r : Rep G α s.heap u x) (e : isTy sub x t = some b) (q : Q (.bool b) H) : wpAny (model prog w) A (call (.builtin "isinstance") [u, .type (tyStr t)]) (Post G (Rep G) s α H Q) E s := by
  have yes : b = true → Post G (Rep G) s α H Q (.bool true) s := fun h => by subst h; exact Post.same' R (.bool _) q
  have no : b = false → Post G (Rep G) s α H Q (.bool false) { s with toks := s.toks + 1 } := fun h => by subst h; exact Post.same R (.bool _) q _
  cases r with
  | int i tk => cases t <;> simp only [isTy, Option.some.injEq] at e <;> first
    | exact IsiPair.int_int (yes e.symm) | exact IsiPair.int_bool (no e.symm) | exact IsiPair.int_tuple (no e.symm) | exact IsiPair.int_list (no e.symm) | cases e
  | bool i => cases t <;> simp only [isTy, Option.some.injEq] at e <;> first
    | exact IsiPair.bool_int (yes e.symm) | exact IsiPair.bool_bool (yes e.symm) | exact IsiPair.bool_tuple (no e.symm) | exact IsiPair.bool_list (no e.symm) | cases e
  | none => cases t <;> simp only [isTy, Option.some.injEq] at e <;> first
    | exact IsiPair.NoneType_int (no e.symm) | exact IsiPair.NoneType_bool (no e.symm) | exact IsiPair.NoneType_tuple (no e.symm) | exact IsiPair.NoneType_list (no e.symm) | cases e
  | str i tk => cases t <;> simp only [isTy, Option.some.injEq] at e <;> first
    | exact IsiPair.str_int (no e.symm) | exact IsiPair.str_bool (no e.symm) | exact IsiPair.str_tuple (no e.symm) | exact IsiPair.str_list (no e.symm) | cases e
  | tup ht rs z => cases t <;> simp only [isTy, Option.some.injEq] at e <;> first
    | exact IsiPair.isTuple_int ht (fun _ _ e => e) (no e.symm) | exact IsiPair.isTuple_bool ht (fun _ _ e => e) (no e.symm) | exact IsiPair.isTuple_tuple ht (fun _ _ e => e) (yes e.symm) | exact IsiPair.isTuple_list ht (fun _ _ e => e) (no e.symm) | cases e
  | lst ha =>
    obtain ⟨xs, hx⟩ := R.at ha
    obtain ⟨vs, hl, _⟩ := R.getList ha hx
    cases t <;> simp only [isTy, Option.some.injEq] at e <;> first
    | exact IsiPair.isList_int hl (fun _ _ e => e) (no e.symm) | exact IsiPair.isList_bool hl (fun _ _ e => e) (no e.symm) | exact IsiPair.isList_tuple hl (fun _ _ e => e) (no e.symm) | exact IsiPair.isList_list hl (fun _ _ e => e) (yes e.symm) | cases e
  | fn _ => cases t <;> simp [isTy] at e

theorem rep_no_cls {G : GV} {α : List Addr} {h : Heap} {u : Value} {x : V} {sub : Nat → Nat → Bool} (r : Rep G α h u x) {ts : List Ty} {bs : List Bool} (hc : ts.any Ty.isCls = true) (e : ts.mapM (isTy sub x) = some bs) : False := by
  induction ts generalizing bs with
  | nil => simp at hc
  | cons t ts ih =>
    simp only [List.mapM_cons, Option.bind_eq_bind, Option.bind_eq_some_iff, Option.pure_def, Option.some.injEq] at e
    obtain ⟨d, e1, ds', e2, rfl⟩ := e
    simp only [List.any_cons, Bool.or_eq_true] at hc
    rcases hc with hc | hc
    · cases t <;> simp [Ty.isCls] at hc
      cases r <;> simp [isTy] at e1
    · exact ih hc e2

theorem tyLoad {t : Ty} {e : Expr} (ht : t.isCls = false) (he : c.isTyp t e = true) (env : Env) (s : Shared) (Z : Value → Shared → Prop) (E : Value → Shared → Prop) (O : EnvOk c env) (T : GF X.G c.g X.DT s.heap) (hz : Z (.type (tyStr t)) s) :
    notStar e = true ∧ wpAny (model X.prog X.w) X.A (eval e env) Z E s := by
  cases t with
  | int => obtain ⟨p, rfl, hx⟩ := isGlob_of_isNm he; exact ⟨rfl, load_b bootInt (by simp [bltNames]) hx O T hz⟩
  | bool => obtain ⟨p, rfl, hx⟩ := isGlob_of_isNm he; exact ⟨rfl, load_b bootBool (by simp [bltNames]) hx O T hz⟩
  | tuple => obtain ⟨p, rfl, hx⟩ := isGlob_of_isNm he; exact ⟨rfl, load_b bootTuple (by simp [bltNames]) hx O T hz⟩
  | list => obtain ⟨p, rfl, hx⟩ := isGlob_of_isNm he; exact ⟨rfl, load_b bootList (by simp [bltNames]) hx O T hz⟩
  | cls k => simp [Ty.isCls] at ht

theorem tyStar {t : Ty} {e : Expr} (he : c.isTyp t e = true) : notStar e = true := by
  cases t <;> simp only [MC.isTyp] at he <;> first
    | (obtain ⟨p, rfl, hx⟩ := isGlob_of_isNm he; rfl)
    | (split at he
       · obtain ⟨p, rfl, hx⟩ := isGlob_of_isNm he; rfl
       · cases he)

theorem se_isi1 {a : PE} {t : Ty} {f x te : Expr} {pos : Pos} (hf : c.isNm f "isinstance" = true) (hn : notStar x = true) (h : SE X c a x) (ht : c.isTyp t te = true) : SE X c (.isi a [t]) (.Call f [x, te] [] pos) := fun env s α ρ H Q E O T R F q => by
  obtain ⟨p, rfl, hx⟩ := isGlob_of_isNm hf
  simp only [qE1, qE2, qE3, qE4, qE5, qE6, qE7, qE8, qE9, qE10, qE11, qE12, qE13, qE14, qE15, qE16, qE17, qE18, qE19, qE20, qE21, qE22] at q
  have hst := tyStar ht
  refine Call_ (load_b bootIsi (by simp [bltNames]) hx O T (callWith_builtin1 (args_cons (wpAny_mono (h env s α ρ H _ E O T R F q) (fun u s₁ p => ?_) fun _ _ y => y) (starEach_cons hn)) (starEach_cons hn) (star_any (by simp [noStar, hst]))))
  obtain ⟨h₁, tk₁, β, K, d, rfl, k, f', R', r, q'⟩ := p
  obtain ⟨bs, e, q'⟩ := ifSome.get q'
  cases hc : t.isCls with
  | true => exact (rep_no_cls r (ts := [t]) (by simp [hc]) e).elim
  | false =>
    simp only [List.mapM_cons, List.mapM_nil, Option.bind_eq_bind, Option.bind_eq_some_iff, Option.pure_def, Option.some.injEq] at e
    obtain ⟨b, e1, _, rfl, rfl⟩ := e
    refine args_cons (tyLoad hc ht env _ _ _ O (T.keeps k) (args_nil ?_)).2 (starEach_cons hst)
    exact wpAny_mono (isi_sound (s := { s with heap := h₁, toks := tk₁ }) R' r e1 (by simpa using q')) (fun _ _ p => p.trans k f') fun _ _ y => y

theorem se_isiN {a : PE} {ts : List Ty} {f x : Expr} {es : List Expr} {kk : Nat} {pp pos : Pos} (hf : c.isNm f "isinstance" = true) (hn : notStar x = true) (h : SE X c a x) (hc : ts.any Ty.isCls = true) : SE X c (.isi a ts) (.Call f [x, .Tuple es kk pp] [] pos) := fun env s α ρ H Q E O T R F q => by
  obtain ⟨p, rfl, hx⟩ := isGlob_of_isNm hf
  simp only [qE1, qE2, qE3, qE4, qE5, qE6, qE7, qE8, qE9, qE10, qE11, qE12, qE13, qE14, qE15, qE16, qE17, qE18, qE19, qE20, qE21, qE22] at q
  refine Call_ (load_b bootIsi (by simp [bltNames]) hx O T (callWith_builtin1 (args_cons (wpAny_mono (h env s α ρ H _ E O T R F q) (fun u s₁ p => ?_) fun _ _ y => y) (starEach_cons hn)) (starEach_cons hn) (star_any (by simp [noStar, notStar]))))
  obtain ⟨h₁, tk₁, β, K, d, rfl, k, f', R', r, q'⟩ := p
  obtain ⟨bs, e, q'⟩ := ifSome.get q'
  exact (rep_no_cls r hc e).elim
end
end Mine

set_option autoImplicit false
set_option linter.unusedSimpArgs false
set_option linter.unusedVariables false
set_option linter.unusedSectionVars false
namespace Mine
open PySem PyProof.Rows PySem.Calls

theorem capNames_spec {c : MC} : ∀ {caps : List Nat} {cs : List Str}, capNames c caps = some cs → cs.length = caps.length ∧ ∀ (i j : Nat), caps[i]? = some j → ∃ n, cs[i]? = some n ∧ c.names[j]? = some n
  | [], cs, h => by simp [capNames] at h; subst h; exact ⟨rfl, fun i j e => by simp at e⟩
  | k :: r, cs, h => by
    simp only [capNames, List.mapM_cons, Option.bind_eq_bind, Option.bind_eq_some_iff, Option.pure_def, Option.some.injEq] at h
    obtain ⟨n, hn, ds, hd, rfl⟩ := h
    obtain ⟨h1, h2⟩ := capNames_spec (caps := r) hd
    refine ⟨by simp [h1], fun i j e => ?_⟩
    cases i with
    | zero => simp at e; subst e; exact ⟨n, rfl, hn⟩
    | succ i => simp at e; obtain ⟨m, a, b⟩ := h2 i j e; exact ⟨m, by simpa using a, b⟩

theorem compOk_of {c : MC} {sc : Scope} {x : Str} {cs : List Str} {caps : List Nat} (hc : capNames c caps = some cs)
    (hout : cs.all (fun n => decide (c.scope.names.lookup n = some NameKind.cell) || decide (c.scope.names.lookup n = some NameKind.free)) = true)
    (hs : compScopeOk sc [x] cs = true) : CompOk c sc x cs caps := by
  unfold compScopeOk at hs
  simp only [Bool.and_eq_true, decide_eq_true_eq, List.all_eq_true] at hs
  obtain ⟨⟨⟨hk, hs⟩, hx⟩, hcs⟩ := hs
  simp only [List.all_eq_true, Bool.or_eq_true, decide_eq_true_eq] at hout
  refine ⟨hk, fun p hp hl => ?_, fun p hp hl => ?_, fun p hp hl => ?_, hx x (by simp), fun n hn => hcs n hn, fun n hn => hout n hn, fun p hp hl => ?_, (capNames_spec hc).2⟩
  · have := hs p hp; rw [hl] at this; simp at this; exact this.1
  · have := hs p hp; rw [hl] at this; simpa using this
  · have := hs p hp; rw [hl] at this; simp at this
  · have := hs p hp; rw [hl] at this; simp at this; exact this.2

theorem pt_const {a b p} : PlainTest (.Constant a b p) := fun _ _ => rfl
theorem pt_name {a p} : PlainTest (.Name a p) := fun _ _ => rfl
theorem pt_bin {a b d p} : PlainTest (.BinOp a b d p) := fun _ _ => rfl
theorem pt_neg {a p} : PlainTest (.UnaryOp .USub a p) := fun _ _ => rfl
theorem pt_call {a b d p} : PlainTest (.Call a b d p) := fun _ _ => rfl
theorem pt_sub {a b p} : PlainTest (.Subscript a b p) := fun _ _ => rfl
theorem pt_tup {a b p} : PlainTest (.Tuple a b p) := fun _ _ => rfl
theorem pt_list {a p} : PlainTest (.List a p) := fun _ _ => rfl
theorem pt_comp {a b d p} : PlainTest (.ListComp a b d p) := fun _ _ => rfl

theorem both {X : SX} {c : MC} {pe : PE} {e : Expr} (h : SE X c pe e) (pt : PlainTest e) : SE X c pe e ∧ SC X c pe e := ⟨h, sc_of_se h pt⟩
theorem notStarM_eq (e : Expr) : notStarM e = notStar e := by cases e <;> rfl

theorem one_spec {β : Type} {l : List β} {x : β} (h : isOne l = some x) : l = [x] := by
  cases l with
  | nil => exact (Option.some_ne_none x h.symm).elim
  | cons y r => cases r with
    | nil => cases h; rfl
    | cons _ _ => exact (Option.some_ne_none x h.symm).elim
theorem varNm_spec {c : MC} {i : Nat} {e : Expr} (h : c.varNm i e = true) : ∃ x p, e = .Name x p ∧ c.isVar i x = true := by
  cases e <;> first | exact (Bool.false_ne_true h).elim | exact ⟨_, _, rfl, h⟩
theorem fnNm_spec {c : MC} {k : Nat} {e : Expr} (h : c.fnNm k e = true) : ∃ x p, e = .Name x p ∧ c.g.fns[k]? = some x ∧ c.isGlob x = true := by
  unfold MC.fnNm at h
  cases hx : c.g.fns[k]? with
  | none => rw [hx] at h; exact (Bool.false_ne_true h).elim
  | some x =>
    rw [hx] at h
    obtain ⟨p, rfl, hg⟩ := MC.isNm_spec h
    exact ⟨x, p, rfl, rfl, hg⟩
theorem tgtName_spec {e : Expr} {x : Str} (h : tgtName e = some x) : ∃ p, e = .Name x p := by
  cases e <;> first | exact (Option.some_ne_none x h.symm).elim | exact ⟨_, by rw [show x = _ from (Option.some.inj h).symm]⟩
theorem isRev_spec {b : Bi} (h : (!b.isRev) = true) : b ≠ .listrev := fun e => by subst e; exact Bool.false_ne_true h

section
variable {c : MC}
theorem inv_cmp {op : COp} {a b : PE} {e : Expr} (h : matchE c (.cmp op a b) e = true) : ∃ l r p, e = .Compare l [cmpOf op] [r] p ∧ behindInMarks (cmpOf op) r = false ∧ matchE c a l = true ∧ matchE c b r = true := by
  cases e <;> first | exact (Bool.false_ne_true h).elim | skip
  rename_i l os rs p
  have h : (match isOne os, isOne rs with | some o, some r => decide (o = cmpOf op) && !behindInMarks o r && matchE c a l && matchE c b r | _, _ => false) = true := h
  cases h1 : isOne os with
  | none => rw [h1] at h; exact (Bool.false_ne_true h).elim
  | some o => cases h2 : isOne rs with
    | none => rw [h1, h2] at h; exact (Bool.false_ne_true h).elim
    | some r =>
      rw [h1, h2] at h
      have h : (decide (o = cmpOf op) && !behindInMarks o r && matchE c a l && matchE c b r) = true := h
      simp only [Bool.and_eq_true, decide_eq_true_eq, Bool.not_eq_true'] at h
      obtain ⟨⟨⟨rfl, hm⟩, h3⟩, h4⟩ := h
      rw [one_spec h1, one_spec h2]
      exact ⟨l, r, p, rfl, hm, h3, h4⟩
theorem inv_call {f : Nat} {es : PEs} {e : Expr} (h : matchE c (.call f es) e = true) : ∃ x p a as pos, e = .Call (.Name x p) (a :: as) [] pos ∧ c.g.fns[f]? = some x ∧ c.isGlob x = true ∧ matchEs c es (a :: as) = true := by
  cases e <;> first | exact (Bool.false_ne_true h).elim | skip
  rename_i g as kw pos
  have h : (kw.isEmpty && c.fnNm f g && !as.isEmpty && matchEs c es as) = true := h
  simp only [Bool.and_eq_true, List.isEmpty_iff, Bool.not_eq_true', List.isEmpty_eq_false_iff] at h
  obtain ⟨⟨⟨rfl, h1⟩, h0⟩, h3⟩ := h
  obtain ⟨x, p, rfl, h1, h2⟩ := fnNm_spec h1
  cases as with
  | nil => exact absurd rfl h0
  | cons a r => exact ⟨x, p, a, r, pos, rfl, h1, h2, h3⟩
theorem inv_bi {b : Bi} {es : PEs} {e : Expr} (h : matchE c (.bi b es) e = true) : ∃ f a as pos, e = .Call f (a :: as) [] pos ∧ b ≠ .listrev ∧ c.isNm f (biName b) = true ∧ matchEs c es (a :: as) = true := by
  cases e <;> first | exact (Bool.false_ne_true h).elim | skip
  rename_i f as kw pos
  have h : (!b.isRev && kw.isEmpty && c.isNm f (biName b) && !as.isEmpty && matchEs c es as) = true := h
  simp only [Bool.and_eq_true, List.isEmpty_iff, List.isEmpty_eq_false_iff] at h
  obtain ⟨⟨⟨⟨hb, rfl⟩, h1⟩, h0⟩, h3⟩ := h
  cases as with
  | nil => exact (Bool.false_ne_true h0).elim
  | cons a r => exact ⟨f, a, r, pos, rfl, isRev_spec hb, h1, h3⟩
theorem inv_isi {a : PE} {ts : List Ty} {e : Expr} (h : matchE c (.isi a ts) e = true) : ∃ f x t pos, e = .Call f [x, t] [] pos ∧ c.isNm f "isinstance" = true ∧ matchE c a x = true ∧ notStar x = true ∧ c.isiOk ts t = true := by
  cases e <;> first | exact (Bool.false_ne_true h).elim | skip
  rename_i f as kw pos
  cases as with
  | nil => exact (Bool.false_ne_true h).elim
  | cons x ys =>
    have h : (match isOne ys with | some t => kw.isEmpty && c.isNm f "isinstance" && matchE c a x && notStarM x && c.isiOk ts t | none => false) = true := h
    cases h1 : isOne ys with
    | none => rw [h1] at h; exact (Bool.false_ne_true h).elim
    | some t =>
      rw [h1] at h
      have h : (kw.isEmpty && c.isNm f "isinstance" && matchE c a x && notStarM x && c.isiOk ts t) = true := h
      simp only [Bool.and_eq_true, List.isEmpty_iff] at h
      obtain ⟨⟨⟨⟨rfl, h2⟩, h3⟩, h4⟩, h5⟩ := h
      rw [one_spec h1]
      exact ⟨f, x, t, pos, rfl, h2, h3, notStarM_eq x ▸ h4, h5⟩
theorem inv_isiOk {ts : List Ty} {t : Expr} (h : c.isiOk ts t = true) : (∃ es k p, t = .Tuple es k p ∧ ts.any Ty.isCls = true) ∨ ∃ ty, ts = [ty] ∧ c.isTyp ty t = true := by
  have one : c.areTyps ts [t] = true → ∃ ty, ts = [ty] ∧ c.isTyp ty t = true := fun h => by
    cases ts with
    | nil => exact (Bool.false_ne_true h).elim
    | cons ty r => cases r with
      | nil => exact ⟨ty, rfl, (Bool.and_eq_true_iff.mp h).1⟩
      | cons _ _ => exact (Bool.false_ne_true (Bool.and_eq_true_iff.mp h).2).elim
  cases t <;> first | exact .inr (one h) | skip
  rename_i es k p
  have h : (decide (2 ≤ ts.length) && ts.all Ty.isCls && c.areTyps ts es) = true := h
  simp only [Bool.and_eq_true, decide_eq_true_eq] at h
  cases ts with
  | nil => exact absurd h.1.1 (by decide)
  | cons t r =>
    have h5 := h.1.2
    rw [List.all_cons, Bool.and_eq_true] at h5
    exact .inl ⟨es, k, p, rfl, by rw [List.any_cons, h5.1]; rfl⟩
theorem inv_slc {a : PE} {lo hi : PO} {e : Expr} (h : matchE c (.slc a lo hi) e = true) : ∃ x l hh p pos, e = .Subscript x (.Slice l hh none p) pos ∧ matchE c a x = true ∧ matchO c lo l = true ∧ matchO c hi hh = true := by
  cases e <;> first | exact (Bool.false_ne_true h).elim | skip
  rename_i x i pos
  cases i <;> first | exact (Bool.false_ne_true h).elim | skip
  rename_i l hh st p
  have h : (st.isNone && matchE c a x && matchO c lo l && matchO c hi hh) = true := h
  simp only [Bool.and_eq_true, Option.isNone_iff_eq_none] at h
  obtain ⟨⟨⟨rfl, h1⟩, h2⟩, h3⟩ := h
  exact ⟨x, l, hh, p, pos, rfl, h1, h2, h3⟩
theorem inv_comp {elt : PE} {tg : Nat} {caps : List Nat} {it : PI} {cond : PO} {e : Expr} (h : matchE c (.comp elt tg caps it cond) e = true) :
    ∃ x tx px i ifs sc pos cs, e = .ListComp x [⟨.Name tx px, i, ifs, 0⟩] sc pos ∧ tg = 1 ∧ CompOk c sc tx cs caps ∧ matchI c it i = true ∧ matchE ⟨c.g, sc, [tx] ++ cs⟩ elt x = true ∧ matchIfs ⟨c.g, sc, [tx] ++ cs⟩ cond ifs = true := by
  cases e <;> first | exact (Bool.false_ne_true h).elim | skip
  rename_i x gs sc pos
  change (match isOne gs with
      | some gn => (match tgtName gn.target, capNames c caps with
        | some tx, some cs => decide (gn.is_async = 0) && decide (tg = 1) && cs.all (fun n => decide (c.scope.names.lookup n = some NameKind.cell) || decide (c.scope.names.lookup n = some NameKind.free)) && compScopeOk sc [tx] cs &&
          matchI c it gn.iter && matchE ⟨c.g, sc, [tx] ++ cs⟩ elt x && matchIfs ⟨c.g, sc, [tx] ++ cs⟩ cond gn.ifs
        | _, _ => false)
      | none => false) = true at h
  cases h1 : isOne gs with
  | none => rw [h1] at h; exact (Bool.false_ne_true h).elim
  | some gn =>
    rw [h1] at h
    obtain ⟨t, i, ifs, asy⟩ := gn
    change (match tgtName t, capNames c caps with
        | some tx, some cs => decide (asy = 0) && decide (tg = 1) && cs.all (fun n => decide (c.scope.names.lookup n = some NameKind.cell) || decide (c.scope.names.lookup n = some NameKind.free)) && compScopeOk sc [tx] cs &&
          matchI c it i && matchE ⟨c.g, sc, [tx] ++ cs⟩ elt x && matchIfs ⟨c.g, sc, [tx] ++ cs⟩ cond ifs
        | _, _ => false) = true at h
    cases h2 : tgtName t with
    | none => rw [h2] at h; exact (Bool.false_ne_true h).elim
    | some tx => cases h3 : capNames c caps with
      | none => rw [h2, h3] at h; exact (Bool.false_ne_true h).elim
      | some cs =>
        rw [h2, h3] at h
        have h : (decide (asy = 0) && decide (tg = 1) && cs.all (fun n => decide (c.scope.names.lookup n = some NameKind.cell) || decide (c.scope.names.lookup n = some NameKind.free)) && compScopeOk sc [tx] cs &&
          matchI c it i && matchE ⟨c.g, sc, [tx] ++ cs⟩ elt x && matchIfs ⟨c.g, sc, [tx] ++ cs⟩ cond ifs) = true := h
        rw [Bool.and_eq_true, Bool.and_eq_true, Bool.and_eq_true, Bool.and_eq_true, Bool.and_eq_true, Bool.and_eq_true, decide_eq_true_eq, decide_eq_true_eq] at h
        obtain ⟨⟨⟨⟨⟨⟨rfl, rfl⟩, hout⟩, hsc⟩, hi⟩, he⟩, hf⟩ := h
        obtain ⟨px, rfl⟩ := tgtName_spec h2
        rw [one_spec h1]
        exact ⟨x, tx, px, i, ifs, sc, pos, cs, rfl, rfl, compOk_of h3 hout hsc, hi, he, hf⟩
theorem inv_rev {pe : PE} {e : Expr} (h : matchI c (.rev pe) e = true) : ∃ f y pos, e = .Call f [y] [] pos ∧ c.isNm f "reversed" = true ∧ matchE c pe y = true ∧ notStar y = true := by
  cases e <;> first | exact (Bool.false_ne_true h).elim | skip
  rename_i f as kw pos
  have h : (match isOne as with | some y => kw.isEmpty && c.isNm f "reversed" && matchE c pe y && notStarM y | none => false) = true := h
  cases h1 : isOne as with
  | none => rw [h1] at h; exact (Bool.false_ne_true h).elim
  | some y =>
    rw [h1] at h
    have h : (kw.isEmpty && c.isNm f "reversed" && matchE c pe y && notStarM y) = true := h
    simp only [Bool.and_eq_true, List.isEmpty_iff] at h
    obtain ⟨⟨⟨rfl, h2⟩, h3⟩, h4⟩ := h
    rw [one_spec h1]
    exact ⟨f, y, pos, rfl, h2, h3, notStarM_eq y ▸ h4⟩
theorem inv_rng {es : PEs} {e : Expr} (h : matchI c (.rng es) e = true) : ∃ f a as pos, e = .Call f (a :: as) [] pos ∧ c.isNm f "range" = true ∧ matchEs c es (a :: as) = true := by
  cases e <;> first | exact (Bool.false_ne_true h).elim | skip
  rename_i f as kw pos
  have h : (kw.isEmpty && c.isNm f "range" && !as.isEmpty && matchEs c es as) = true := h
  simp only [Bool.and_eq_true, List.isEmpty_iff] at h
  obtain ⟨⟨⟨rfl, h1⟩, h0⟩, h3⟩ := h
  cases as with
  | nil => exact (Bool.false_ne_true h0).elim
  | cons a r => exact ⟨f, a, r, pos, rfl, h1, h3⟩
theorem inv_cons {pe : PE} {ps : PEs} {es : List Expr} (h : matchEs c (.cons pe ps) es = true) : ∃ x xs, es = x :: xs ∧ matchE c pe x = true ∧ notStar x = true ∧ matchEs c ps xs = true := by
  cases es with
  | nil => exact (Bool.false_ne_true h).elim
  | cons x xs =>
    have h : (matchE c pe x && notStarM x && matchEs c ps xs) = true := h
    simp only [Bool.and_eq_true] at h
    exact ⟨x, xs, rfl, h.1.1, notStarM_eq x ▸ h.1.2, h.2⟩
end

section
variable {X : SX} {g : GC} (hA : AOk X.A) (hΦ : SCall X.prog X.w X.G g X.DT X.A X.Φ)
include hA hΦ

mutual
theorem soundE : (pe : PE) → ∀ (sc : Scope) (names : List Str) (e : Expr), matchE ⟨g, sc, names⟩ pe e = true → SE X ⟨g, sc, names⟩ pe e ∧ SC X ⟨g, sc, names⟩ pe e
  | .cint i, sc, names, e, h => by
    cases e <;> first | exact (Bool.false_ne_true h).elim | skip
    rename_i k _ _
    cases k <;> first | exact (Bool.false_ne_true h).elim | skip
    cases of_decide_eq_true h; exact both se_cint pt_const
  | .cbool i, sc, names, e, h => by
    cases e <;> first | exact (Bool.false_ne_true h).elim | skip
    rename_i k _ _
    cases k <;> first | exact (Bool.false_ne_true h).elim | skip
    cases of_decide_eq_true h; exact both se_cbool pt_const
  | .cstr i, sc, names, e, h => by
    cases e <;> first | exact (Bool.false_ne_true h).elim | skip
    rename_i k _ _
    cases k <;> first | exact (Bool.false_ne_true h).elim | skip
    cases of_decide_eq_true h; exact both se_cstr pt_const
  | .cnone, sc, names, e, h => by
    cases e <;> first | exact (Bool.false_ne_true h).elim | skip
    rename_i k _ _
    cases k <;> first | exact (Bool.false_ne_true h).elim | skip
    exact both se_cnone pt_const
  | .var i, sc, names, e, h => by
    obtain ⟨x, p, rfl, h⟩ := varNm_spec h
    exact both (se_var h) pt_name
  | .fnv k, sc, names, e, h => by
    obtain ⟨x, p, rfl, h1, h2⟩ := fnNm_spec h
    exact both (se_fnv h1 h2) pt_name
  | .glob x a b, sc, names, e, h => by
    have h := Bool.and_eq_true_iff.mp h
    have hs := se_glob (X := X) (c := ⟨g, sc, names⟩) (List.contains_iff_mem.mp h.1) h.2
    obtain ⟨p, rfl, _⟩ := MC.isNm_spec h.2
    exact both hs pt_name
  | .bin op a b, sc, names, e, h => by
    cases e <;> first | exact (Bool.false_ne_true h).elim | skip
    rename_i l o r p
    have h : (decide (o = opOf op) && matchE ⟨g, sc, names⟩ a l && matchE ⟨g, sc, names⟩ b r) = true := h
    simp only [Bool.and_eq_true, decide_eq_true_eq] at h
    obtain ⟨⟨rfl, h1⟩, h2⟩ := h
    exact both (se_bin (op := op) (soundE a sc names _ h1).1 (soundE b sc names _ h2).1) pt_bin
  | .neg a, sc, names, e, h => by
    cases e <;> first | exact (Bool.false_ne_true h).elim | skip
    rename_i o x p
    have h := Bool.and_eq_true_iff.mp h
    cases of_decide_eq_true h.1
    exact both (se_neg (soundE a sc names _ h.2).1) pt_neg
  | .nt a, sc, names, e, h => by
    cases e <;> first | exact (Bool.false_ne_true h).elim | skip
    rename_i o x p
    have h := Bool.and_eq_true_iff.mp h
    cases of_decide_eq_true h.1
    exact ⟨se_nt (soundE a sc names _ h.2).1, sc_nt (soundE a sc names _ h.2).2⟩
  | .cmp op a b, sc, names, e, h => by
    obtain ⟨l, r, p, rfl, hm, h1, h2⟩ := inv_cmp h
    exact ⟨se_cmp hA hm (soundE a sc names _ h1).1 (soundE b sc names _ h2).1, sc_cmp hA hm (soundE a sc names _ h1).1 (soundE b sc names _ h2).1⟩
  | .and es, sc, names, e, h => by
    cases e <;> first | exact (Bool.false_ne_true h).elim | skip
    have h := Bool.and_eq_true_iff.mp h
    cases of_decide_eq_true h.1
    exact ⟨se_and (soundAll true es sc names _ h.2).1, sc_and (soundAll true es sc names _ h.2).2⟩
  | .or es, sc, names, e, h => by
    cases e <;> first | exact (Bool.false_ne_true h).elim | skip
    have h := Bool.and_eq_true_iff.mp h
    cases of_decide_eq_true h.1
    exact ⟨se_or (soundAll false es sc names _ h.2).1, sc_or (soundAll false es sc names _ h.2).2⟩
  | .call f es, sc, names, e, h => by
    obtain ⟨x, p, a, r, pos, rfl, h1, h2, h3⟩ := inv_call h
    obtain ⟨hs, hn⟩ := soundEs es sc names _ h3
    exact both (se_call (c := ⟨g, sc, names⟩) hΦ h1 h2 (Bool.and_eq_true_iff.mp hn).1 hs) pt_call
  | .callv _ _, sc, names, e, h => (Bool.false_ne_true h).elim
  | .bi b es, sc, names, e, h => by
    obtain ⟨f, a, r, pos, rfl, hb, h1, h3⟩ := inv_bi h
    obtain ⟨hs, hn⟩ := soundEs es sc names _ h3
    exact both (se_bi hA hb h1 hn hs) pt_call
  | .isi a ts, sc, names, e, h => by
    obtain ⟨f, x, t, pos, rfl, h1, h2, h3, h4⟩ := inv_isi h
    rcases inv_isiOk h4 with ⟨es, k, p, rfl, h5⟩ | ⟨ty, rfl, h5⟩
    · exact both (se_isiN h1 h3 (soundE a sc names _ h2).1 h5) pt_call
    · exact both (se_isi1 h1 h3 (soundE a sc names _ h2).1 h5) pt_call
  | .idx a b, sc, names, e, h => by
    cases e <;> first | exact (Bool.false_ne_true h).elim | skip
    have h := Bool.and_eq_true_iff.mp h
    have h1 := Bool.and_eq_true_iff.mp h.1
    exact both (se_idx h.2 (soundE a sc names _ h1.1).1 (soundE b sc names _ h1.2).1) pt_sub
  | .slc a lo hi, sc, names, e, h => by
    obtain ⟨x, l, hh, p, pos, rfl, h1, h2, h3⟩ := inv_slc h
    exact both (se_slc (soundE a sc names _ h1).1 (soundO lo sc names _ h2) (soundO hi sc names _ h3)) pt_sub
  | .tup es, sc, names, e, h => by
    cases e <;> first | exact (Bool.false_ne_true h).elim | skip
    have h := Bool.and_eq_true_iff.mp h
    exact both (se_tup (of_decide_eq_true h.1) (soundEs es sc names _ h.2).1) pt_tup
  | .lst es, sc, names, e, h => by
    cases e <;> first | exact (Bool.false_ne_true h).elim | skip
    have h := Bool.and_eq_true_iff.mp h
    exact both (se_lst (of_decide_eq_true h.1) (soundEs es sc names _ h.2).1) pt_list
  | .comp elt tg caps it cond, sc, names, e, h => by
    obtain ⟨x, tx, px, i, ifs, sc', pos, cs, rfl, rfl, hK, hi, he, hf⟩ := inv_comp h
    obtain ⟨hsi, hns⟩ := soundI it sc names _ hi
    exact both (se_comp hK (soundE elt sc' _ _ he).1 (soundIfs cond sc' _ _ hf) hsi hns) pt_comp
theorem soundEs : (ps : PEs) → ∀ (sc : Scope) (names : List Str) (es : List Expr), matchEs ⟨g, sc, names⟩ ps es = true → SEs X ⟨g, sc, names⟩ ps es ∧ noStar es = true
  | .nil, sc, names, es, h => by
    cases es with
    | nil => exact ⟨ses_nil, rfl⟩
    | cons _ _ => exact (Bool.false_ne_true h).elim
  | .cons pe ps, sc, names, es, h => by
    obtain ⟨x, xs, rfl, h1, hst, h2⟩ := inv_cons h
    obtain ⟨h3, h4⟩ := soundEs ps sc names _ h2
    exact ⟨ses_cons hst (soundE pe sc names _ h1).1 h3, Bool.and_eq_true_iff.mpr ⟨hst, h4⟩⟩
theorem soundAll : (b : Bool) → (ps : PEs) → ∀ (sc : Scope) (names : List Str) (es : List Expr), matchEs ⟨g, sc, names⟩ ps es = true → SAll X ⟨g, sc, names⟩ b ps es ∧ SAllC X ⟨g, sc, names⟩ b ps es
  | b, .nil, sc, names, es, h => by
    cases es with
    | nil => exact ⟨sall_nil, sallc_nil⟩
    | cons _ _ => exact (Bool.false_ne_true h).elim
  | b, .cons pe ps, sc, names, es, h => by
    obtain ⟨x, xs, rfl, h1, _, h2⟩ := inv_cons h
    have ih := soundAll b ps sc names _ h2
    cases ps with
    | nil =>
      cases xs with
      | nil => exact ⟨sall_one (soundE pe sc names _ h1).1, sallc_one (soundE pe sc names _ h1).2⟩
      | cons _ _ => exact (Bool.false_ne_true h2).elim
    | cons p2 ps =>
      obtain ⟨y, ys, rfl, _⟩ := inv_cons h2
      exact ⟨sall_cons (soundE pe sc names _ h1).1 ih.1, sallc_cons (soundE pe sc names _ h1).2 ih.2⟩
theorem soundO : (po : PO) → ∀ (sc : Scope) (names : List Str) (o : Option Expr), matchO ⟨g, sc, names⟩ po o = true → SO X ⟨g, sc, names⟩ po o
  | .no, sc, names, o, h => by
    cases o with
    | none => rfl
    | some _ => exact (Bool.false_ne_true h).elim
  | .some pe, sc, names, o, h => by
    cases o with
    | none => exact (Bool.false_ne_true h).elim
    | some x => exact ⟨_, rfl, (soundE pe sc names _ h).1⟩
theorem soundIfs : (po : PO) → ∀ (sc : Scope) (names : List Str) (o : List Expr), matchIfs ⟨g, sc, names⟩ po o = true → SIfs X ⟨g, sc, names⟩ po o
  | .no, sc, names, o, h => by
    cases o with
    | nil => rfl
    | cons _ _ => exact (Bool.false_ne_true h).elim
  | .some pe, sc, names, o, h => by
    cases o with
    | nil => exact (Bool.false_ne_true h).elim
    | cons x r => cases r with
      | nil => exact ⟨_, rfl, (soundE pe sc names _ h).2⟩
      | cons _ _ => exact (Bool.false_ne_true h).elim
theorem soundI : (pi : PI) → ∀ (sc : Scope) (names : List Str) (e : Expr), matchI ⟨g, sc, names⟩ pi e = true → SI X ⟨g, sc, names⟩ pi e ∧ notSet e = true
  | .seq pe, sc, names, e, h => by
    have h := Bool.and_eq_true_iff.mp h
    exact ⟨si_seq hA (soundE pe sc names _ h.1).1, h.2⟩
  | .rev pe, sc, names, e, h => by
    obtain ⟨f, y, pos, rfl, h1, h2, h3⟩ := inv_rev h
    obtain ⟨p, rfl, hx⟩ := MC.isNm_spec h1
    exact ⟨si_rev hA hx h3 (soundE pe sc names _ h2).1, rfl⟩
  | .rng es, sc, names, e, h => by
    obtain ⟨f, a, r, pos, rfl, h1, h3⟩ := inv_rng h
    obtain ⟨p, rfl, hx⟩ := MC.isNm_spec h1
    obtain ⟨hs, hn⟩ := soundEs es sc names _ h3
    exact ⟨si_rng hA hx hn hs, rfl⟩
end
end
end Mine

set_option autoImplicit false
set_option linter.unusedSimpArgs false
set_option linter.unusedVariables false
namespace Mine
open PySem PyProof.Rows PySem.Calls

/-- a frame of an own def: the heap at its entry, its place -/
structure FC where
  c : MC
  env : Env
  hb : Heap

structure FCOk (f : FC) : Prop where
  env : EnvOk f.c f.env
  nodup : f.c.names.Nodup
  kind : ∀ x, f.c.scope.names.lookup x ≠ some NameKind.free
  deadL : f.hb.get? f.env.locals = none
  deadC : ∀ n a, (n, a) ∈ f.env.cells → f.hb.get? a = none
  above : ∀ n a, (n, a) ∈ f.env.cells → f.env.locals < a
  apart : f.env.cells.Pairwise fun x y => x.2 ≠ y.2
  uniq : ∀ n a, (n, a) ∈ f.env.cells → f.env.cells.lookup n = some a

/-- the frame's state: its variables, and what stood at its entry -/
structure FrS (G : GV) (f : FC) (W : Nat → Prop) (h : Heap) (α : List Addr) (ρ : Loc) : Prop where
  fr : ∃ m cm, h.Ns f.env.locals m ∧ Cl f.env.locals f.env.cells h cm ∧ ∀ (i : Nat) (x : Str) (d : V), f.c.names[i]? = some x → lget ρ i = some d →
    ∃ v, ((f.env.kindOf x = some .local ∧ m x = some v) ∨ (f.env.kindOf x = some .cell ∧ cm x = some v ∧ ∃ a, f.env.cells.lookup x = some a)) ∧ Rep G α h v d
  kb : KeepsH f.hb h
  wb : ∀ n a, α[n]? = some a → W n → f.hb.get? a = none

theorem FrS.fi {G : GV} {f : FC} {W : Nat → Prop} {h : Heap} {α : List Addr} {ρ : Loc} (F : FrS G f W h α ρ) : FI G f.c f.env α h ρ := fun i x d e1 e2 => by
  obtain ⟨m, cm, hn, hc, hv⟩ := F.fr
  obtain ⟨v, hv, r⟩ := hv i x d e1 e2
  refine ⟨v, ?_, r⟩
  rcases hv with ⟨k, e⟩ | ⟨k, e, a, ha⟩
  · exact .inl ⟨k, m, hn, e⟩
  · exact .inr ⟨.inl k, a, ha, by have := hc.cell x a ha; rw [e] at this; exact this⟩
theorem FrS.up {G : GV} {f : FC} {W : Nat → Prop} {h h' : Heap} {α β : List Addr} {ρ : Loc} (F : FrS G f W h α ρ) (k : KeepsH h h') (hf : ∀ b ∈ β, h.get? b = none) : FrS G f W h' (α ++ β) ρ := by
  obtain ⟨m, cm, hn, hc, hv⟩ := F.fr
  refine ⟨⟨m, cm, hn.keeps k, hc.keeps k, fun i x d e1 e2 => ?_⟩, F.kb.trans k, fun n a ha hw => ?_⟩
  · obtain ⟨v, hv, r⟩ := hv i x d e1 e2
    exact ⟨v, hv, r.up k⟩
  · by_cases hl : n < α.length
    · rw [List.getElem?_append_left hl] at ha; exact F.wb n a ha hw
    · rw [List.getElem?_append_right (by omega)] at ha
      have hm := hf a (List.mem_of_getElem? ha)
      cases e : f.hb.get? a with
      | none => rfl
      | some o => have := F.kb a o e; rw [hm] at this; cases this
theorem FrS.weak {G : GV} {f : FC} {W W' : Nat → Prop} {h : Heap} {α : List Addr} {ρ : Loc} (F : FrS G f W h α ρ) (hw : ∀ n, W' n → W n) : FrS G f W' h α ρ := ⟨F.fr, F.kb, fun n a e w => F.wb n a e (hw n w)⟩

theorem lget_lset {v : V} : ∀ (ρ : Loc) (i j : Nat), lget (lset ρ i v) j = some v ∧ j = i ∨ lget (lset ρ i v) j = lget ρ j ∧ (j ≠ i ∨ lget ρ j = none)
  | [], i, j => by cases i <;> cases j <;> simp [lset, lget]
  | x :: r, 0, 0 => by simp [lset, lget]
  | x :: r, 0, j + 1 => by simp [lset, lget]
  | x :: r, i + 1, 0 => by simp [lset, lget]
  | x :: r, i + 1, j + 1 => by
    simp only [lset, lget]
    rcases lget_lset r i j with ⟨a, b⟩ | ⟨a, b⟩
    · exact .inl ⟨a, by omega⟩
    · exact .inr ⟨a, by rcases b with b | b; exact .inl (by omega); exact .inr b⟩

/-- every object that lives, lives on -/
noncomputable def Lives (h h' : Heap) : Prop := ∀ b o, h.get? b = some o → ∃ o', h'.get? b = some o'
theorem Lives.of {h h' : Heap} (k : KeepsH h h') : Lives h h' := fun b o e => ⟨o, k b o e⟩
theorem Lives.trans {h h' h'' : Heap} (a : Lives h h') (b : Lives h' h'') : Lives h h'' := fun x o e => let ⟨o', e'⟩ := a x o e; b x o' e'
theorem Lives.sameBut {h h' : Heap} {a : Addr} (hs : Heap.SameBut a h h') (ha : ∃ o, h'.get? a = some o) : Lives h h' := fun b o e => by
  by_cases hb : b = a
  · subst hb; exact ha
  · exact ⟨o, hs.extBut b o hb e⟩

/-- all is kept but the frame and its cells -/
noncomputable def KeepsF (f : FC) (h h' : Heap) : Prop := ∀ b o, h.get? b = some o → b ≠ f.env.locals → (∀ n, (n, b) ∉ f.env.cells) → h'.get? b = some o

theorem FrS.alive {G : GV} {f : FC} {W : Nat → Prop} {h : Heap} {α : List Addr} {ρ : Loc} (F : FrS G f W h α ρ) : (∃ o, h.get? f.env.locals = some o) := by
  obtain ⟨m, cm, ⟨o, es, ep, ho, _⟩, _⟩ := F.fr
  exact ⟨o, ho⟩
section
variable {M : Model} {A : Around} {E : Value → Shared → Prop} {s : Shared} {G : GV} {f : FC} {W : Nat → Prop} {α : List Addr} {ρ : Loc}
theorem store_var {i : Nat} {x : Str} {v : Value} {d : V} {Q : Unit → Shared → Prop} (K : FCOk f) (F : FrS G f W s.heap α ρ) (hx : f.c.isVar i x = true) (r : Rep G α s.heap v d)
    (h : ∀ h' tk, FrS G f W h' α (lset ρ i d) → KeepsF f s.heap h' → KeepsLT s.heap h' → Lives s.heap h' → Q () { s with heap := h', toks := tk }) : wpAny M A (storeName f.env x v) Q E s := by
  obtain ⟨m, cm, hn, hc, hv⟩ := F.fr
  obtain ⟨hxi, _, _, hk⟩ := MC.isVar_spec hx
  have other : ∀ j y e, f.c.names[j]? = some y → lget (lset ρ i d) j = some e → (j = i ∧ e = d) ∨ (y ≠ x ∧ lget ρ j = some e) := fun j y e hj he => by
    rcases lget_lset (v := d) ρ i j with ⟨a, b⟩ | ⟨a, b⟩
    · rw [a] at he; cases he; exact .inl ⟨b, rfl⟩
    · rw [a] at he
      rcases b with b | b
      · refine .inr ⟨fun q => b ?_, he⟩
        subst q
        obtain ⟨l1, g1⟩ := List.getElem?_eq_some_iff.mp hj
        obtain ⟨l2, g2⟩ := List.getElem?_eq_some_iff.mp hxi
        exact (List.getElem_inj K.nodup).mp (g1.trans g2.symm)
      · rw [b] at he; cases he
  have hkind : f.env.kindOf x = some .local ∨ f.env.kindOf x = some .cell := by
    rcases hk with hk | hk | hk
    · exact .inl (K.env.loc x hk)
    · exact .inr (K.env.cel x hk)
    · exact absurd hk (K.kind x)
  rcases hkind with hl | hl
  · refine wpAny_storeName_local hl hn (fun h' hn' hs' => ?_) (by rw [K.env.kind]; rfl)
    have lt : KeepsLT s.heap h' := KeepsLT.sameBut hs' (ns_notSeq hn)
    refine h h' _ ⟨⟨_, cm, hn', hc.sameBut hs' (Nat.le_refl _), fun j y e hj he => ?_⟩, fun b o e => hs'.extBut b o (fun q => by rw [q, K.deadL] at e; cases e) (F.kb b o e), F.wb⟩ (fun b o e hb _ => hs'.extBut b o hb e) lt (.sameBut hs' (let ⟨o, _, _, ho, _⟩ := hn'; ⟨o, ho⟩))
    rcases other j y e hj he with ⟨rfl, rfl⟩ | ⟨hy, he⟩
    · rw [hxi] at hj; cases hj
      exact ⟨v, .inl ⟨hl, if_pos rfl⟩, r.mono (fun _ _ e => e) lt.tup⟩
    · obtain ⟨u, hu, ru⟩ := hv j y e hj he
      refine ⟨u, ?_, ru.mono (fun _ _ e => e) lt.tup⟩
      rcases hu with ⟨k, e⟩ | hu
      · exact .inl ⟨k, by rw [if_neg hy]; exact e⟩
      · exact .inr hu
  · obtain ⟨ca, hca⟩ := K.env.cells x (.inl hl)
    have hcell := hc.cell x ca hca
    have hmem := PySem.mem_of_lookup hca
    refine wpAny_storeName_cell K.env.kind hl hca hcell fun h' hv' hs' => ?_
    have lt : KeepsLT s.heap h' := KeepsLT.sameBut hs' fun o ho items n d => by
      obtain ⟨o', ho', hd'⟩ := hcell
      rw [ho] at ho'; cases ho'; rw [hd'] at d; cases d
    have hLc : f.env.locals < ca := K.above x ca hmem
    refine h h' s.toks ⟨⟨m, fun y => if y = x then some v else cm y, hn.sameBut hs' (Nat.ne_of_lt hLc), ⟨fun n c' e => ?_, hc.apart, hc.above⟩, fun j y e hj he => ?_⟩, fun b o e => hs'.extBut b o (fun q => by rw [q, K.deadC x ca hmem] at e; cases e) (F.kb b o e), F.wb⟩ (fun b o e _ hb => hs'.extBut b o (fun q => hb x (q ▸ hmem)) e) lt (.sameBut hs' (let ⟨o, ho, _⟩ := hv'; ⟨o, ho⟩))
    · by_cases hnx : n = x
      · subst hnx; rw [hca] at e; cases e; simpa using hv'
      · have hcc : c' ≠ ca := fun q => hnx (name_of_addr hc.apart (PySem.mem_of_lookup e) (q ▸ hmem))
        simpa [hnx] using (hc.cell n c' e).sameBut hs' hcc
    · rcases other j y e hj he with ⟨rfl, rfl⟩ | ⟨hy, he⟩
      · rw [hxi] at hj; cases hj
        exact ⟨v, .inr ⟨hl, if_pos rfl, ca, hca⟩, r.mono (fun _ _ e => e) lt.tup⟩
      · obtain ⟨u, hu, ru⟩ := hv j y e hj he
        refine ⟨u, ?_, ru.mono (fun _ _ e => e) lt.tup⟩
        rcases hu with hu | ⟨k, e, a, ha⟩
        · exact .inl hu
        · exact .inr ⟨k, by show (if y = x then some v else cm y) = some u; rw [if_neg hy]; exact e, a, ha⟩
end
end Mine

set_option autoImplicit false
set_option linter.unusedSimpArgs false
set_option linter.unusedVariables false
namespace Mine
open PySem PyProof.Rows PySem.Calls

/-- from state to state: only the frame and the lists that may be written have turned -/
structure StepS (f : FC) (W : Nat → Prop) (s : Shared) (α : List Addr) (H : Hp) (h' : Heap) (β : List Addr) (H' : Hp) : Prop where
  keep : ∀ b o, s.heap.get? b = some o → b ≠ f.env.locals → (∀ n, (n, b) ∉ f.env.cells) → (∀ n, α[n]? = some b → ¬ W n) → h'.get? b = some o
  fresh : ∀ b ∈ β, s.heap.get? b = none
  same : ∀ n, n < H.length → ¬ W n → H'[n]? = H[n]?
  le : H.length ≤ H'.length

theorem StepS.refl {f : FC} {W : Nat → Prop} {s : Shared} {α : List Addr} {H : Hp} : StepS f W s α H s.heap [] H := ⟨fun _ _ e _ _ _ => e, by simp, fun _ _ _ => rfl, Nat.le_refl _⟩
theorem StepS.of {f : FC} {W : Nat → Prop} {s : Shared} {α : List Addr} {H : Hp} {h' : Heap} {β : List Addr} {K : Hp} (k : KeepsH s.heap h') (hf : ∀ b ∈ β, s.heap.get? b = none) : StepS f W s α H h' β (H ++ K) :=
  ⟨fun b o e _ _ _ => k b o e, hf, fun n hn _ => List.getElem?_append_left hn, by simp⟩
theorem StepS.trans {f : FC} {W : Nat → Prop} {s : Shared} {α : List Addr} {H : Hp} {h₁ h₂ : Heap} {tk : Nat} {β₁ β₂ : List Addr} {H₁ H₂ : Hp}
    (a : StepS f W s α H h₁ β₁ H₁) (ak : ∀ b o, s.heap.get? b = some o → ∃ o', h₁.get? b = some o') (b : StepS f W { s with heap := h₁, toks := tk } (α ++ β₁) H₁ h₂ β₂ H₂) : StepS f W s α H h₂ (β₁ ++ β₂) H₂ := by
  refine ⟨fun x o e h1 h2 h3 => ?_, fun x hx => ?_, fun n hn hw => ?_, Nat.le_trans a.le b.le⟩
  · refine b.keep x o (a.keep x o e h1 h2 h3) h1 h2 fun n hn => ?_
    by_cases hlt : n < α.length
    · rw [List.getElem?_append_left hlt] at hn; exact h3 n hn
    · rw [List.getElem?_append_right (by omega)] at hn
      have := a.fresh x (List.mem_of_getElem? hn)
      rw [e] at this; cases this
  · rcases List.mem_append.mp hx with hx | hx
    · exact a.fresh x hx
    · cases e : s.heap.get? x with
      | none => rfl
      | some o =>
        obtain ⟨o', e'⟩ := ak x o e
        have := b.fresh x hx
        rw [show ({ s with heap := h₁, toks := tk } : Shared).heap.get? x = some o' from e'] at this; cases this
  · rw [b.same n (Nat.lt_of_lt_of_le hn a.le) hw]; exact a.same n hn hw

/-- the post of a statement -/
inductive PostS (G : GV) (f : FC) (W : Nat → Prop) (s : Shared) (α : List Addr) (H : Hp) (N : Loc → Hp → Prop) (R : V → Hp → Prop) (fl : Flow) (s' : Shared) : Prop
  | mk (h' : Heap) (tk : Nat) (β : List Addr) (H' : Hp) (e : s' = { s with heap := h', toks := tk }) (st : StepS f W s α H h' β H') (lv : Lives s.heap h') (hr : HR G (α ++ β) h' H') (c : match fl with
    | .next => ∃ ρ', FrS G f W h' (α ++ β) ρ' ∧ N ρ' H'
    | .ret v => KeepsH f.hb h' ∧ ∃ d, Rep G (α ++ β) h' v d ∧ R d H'
    | _ => False)

/-- what a raise needs -/
noncomputable def RaiseOk (X : SX) (f : FC) (W : Nat → Prop) (s : Shared) (α : List Addr) (H : Hp) (Y : Nat → Hp → Prop) (E : Value → Shared → Prop) : Prop :=
  ∀ (k : Nat) (st : Stmt) (h' : Heap) (tk : Nat) (β : List Addr) (H' : Hp) (ρ' : Loc), matchS f.c (.raise k) st = true → StepS f W s α H h' β H' → Lives s.heap h' → HR X.G (α ++ β) h' H' → FrS X.G f W h' (α ++ β) ρ' → Y k H' →
    wpAny (model X.prog X.w) X.A (exec st f.env) (fun _ _ => False) E { s with heap := h', toks := tk }

noncomputable def SS (X : SX) (f : FC) (ps : PS) (st : Stmt) : Prop :=
  ∀ (W : Nat → Prop) (s : Shared) (α : List Addr) (ρ : Loc) (H : Hp) (N : Loc → Hp → Prop) (R : V → Hp → Prop) (Y : Nat → Hp → Prop) (E : Value → Shared → Prop), (∀ n, W n → 1 ≤ n) → GF X.G f.c.g X.DT f.hb → FrS X.G f W s.heap α ρ → HR X.G α s.heap H →
    RaiseOk X f W s α H Y E → wpS X.sub X.Φ W ps ρ H N R Y → wpAny (model X.prog X.w) X.A (exec st f.env) (PostS X.G f W s α H N R) E s
noncomputable def SB (X : SX) (f : FC) (ps : PS) (sts : List Stmt) : Prop :=
  ∀ (W : Nat → Prop) (s : Shared) (α : List Addr) (ρ : Loc) (H : Hp) (N : Loc → Hp → Prop) (R : V → Hp → Prop) (Y : Nat → Hp → Prop) (E : Value → Shared → Prop), (∀ n, W n → 1 ≤ n) → GF X.G f.c.g X.DT f.hb → FrS X.G f W s.heap α ρ → HR X.G α s.heap H →
    RaiseOk X f W s α H Y E → wpS X.sub X.Φ W ps ρ H N R Y → wpAny (model X.prog X.w) X.A (execs sts f.env) (PostS X.G f W s α H N R) E s

end Mine

set_option autoImplicit false
set_option linter.unusedSimpArgs false
set_option linter.unusedVariables false
namespace Mine
open PySem PyProof.Rows PySem.Calls

theorem upd_plain {h : Heap} {a : Addr} {items : Array Value} (x : h.PlainList a items) (f : Array Value → Array Value) : (h.update a (Obj.mapSeq f)).PlainList a (f items) := by
  obtain ⟨n, e⟩ := x
  have := Heap.get?_update_self (h := h) (a := a) (Obj.mapSeq f) e rfl
  exact ⟨_, this⟩

section
variable {prog : Program} {w : World} {A : Around} {E : Value → Shared → Prop} {s : Shared}

theorem setItem_plain {l : Addr} {items : Array Value} {k : Int} {j : Nat} {t : Tok} {v : Value} {Q : Unit → Shared → Prop} (hl : s.heap.PlainList l items) (hp : place items.size k = some j) (hz : items.size ≤ 1000000)
    (hQ : Q () { s with heap := s.heap.update l (Obj.mapSeq (·.setIfInBounds j v)) }) :
    wpAny (model prog w) A (setItem (.ref l) (.int k t) v) Q E s := by
  obtain ⟨ne, ho⟩ := id hl
  have hty := hl.isList.typeIs
  obtain ⟨h1, h2⟩ := place_spec hp
  have hx' : items[j]? = some items[j] := Array.getElem?_eq_getElem h1
  unfold setItem
  try with_reducible refine wpAny_holding ?_
  first | refine wpAny_bind (wpAny_pure ?_) | skip
  refine wpAny_bind (wpAny_sequenceKey hty (by decide) ?_)
  refine wpAny_bind (wpAny_callSpecial?_slot (name := Str.ofString "__setitem__") hty slot_list_setitem
    (wpAny_call_entry slot_list_setitem hty entry_list_setitem ?_ (args_list_setitem _ _ _)))
  show wpAny _ _ (Builtin.List.listSubscript? (.int k t) >>= _) _ _ s
  rcases h2 with ⟨h0, h2⟩ | ⟨h0, h2⟩
  · refine wpAny_bind (wpAny_listSubscript_int (fitsIndex_of h0 (by omega)) ?_)
    subst h2
    show wpAny _ _ ((seqItemAt l j >>= fun r => pure (r.map (j, ·))) >>= _) _ _ s
    refine wpAny_bind (wpAny_bind (wpAny_seqItemAt ho rfl (wpAny_pure ?_)))
    rw [hx']
    show wpAny _ _ (setSeqItemAt l j v >>= _) _ _ s
    refine wpAny_bind (wpAny_setSeqItemAt ho rfl ?_)
    first
      | exact wpAny_bind (wpAny_pure (wpAny_pure ⟨.none, rfl, wpAny_pure hQ⟩))
      | exact wpAny_pure ⟨.none, rfl, wpAny_pure hQ⟩
  · refine wpAny_bind (wpAny_listSubscript_int (fitsIndex_neg h0 (by omega)) ?_)
    have hidx : seqIndex? k items.size = some j := place_seq hp
    obtain ⟨i, rfl⟩ : ∃ i : Nat, k = Int.negSucc i := by
      cases k with
      | ofNat n => exact absurd h0 (Int.not_lt.mpr (Int.ofNat_nonneg n))
      | negSucc n => exact ⟨n, rfl⟩
    show wpAny _ _ ((Builtin.List.listItems (.ref l) >>= fun xs => pure ((seqIndex? (Int.negSucc i) xs.size).bind fun i => xs[i]?.map (i, ·))) >>= _) _ _ s
    refine wpAny_bind (wpAny_bind ?_)
    show wpAny _ _ (seqItems? (.ref l) >>= _) _ _ s
    refine wpAny_bind (wpAny_seqItems ho rfl (wpAny_pure (wpAny_pure ?_)))
    rw [hidx]
    simp only [Option.bind_some, hx', Option.map_some]
    show wpAny _ _ (setSeqItemAt l j v >>= _) _ _ s
    refine wpAny_bind (wpAny_setSeqItemAt ho rfl ?_)
    first
      | exact wpAny_bind (wpAny_pure (wpAny_pure ⟨.none, rfl, wpAny_pure hQ⟩))
      | exact wpAny_pure ⟨.none, rfl, wpAny_pure hQ⟩
end

section
variable {G : GV} {f : FC} {W : Nat → Prop} {s : Shared} {α : List Addr} {ρ : Loc} {H : Hp}
/-- a list that may be written is written -/
theorem write_list (K : FCOk f) (F : FrS G f W s.heap α ρ) (R : HR G α s.heap H) {n : Nat} {a : Addr} {xs xs' : List V} {vs' : List Value} (hw : W n) (ha : α[n]? = some a) (hx : H[n]? = some xs) {h' : Heap} (hs : Heap.SameBut a s.heap h')
    (hl : h'.PlainList a vs'.toArray) (q : Reps G α s.heap vs' xs') (z : xs'.length ≤ lim) :
    FrS G f W h' α ρ ∧ HR G α h' (H.set n xs') ∧ StepS f W s α H h' [] (H.set n xs') ∧ Lives s.heap h' := by
  obtain ⟨kt, R'⟩ := R.set ha hx hs hl q z
  obtain ⟨m, cm, hn, hc, hv⟩ := F.fr
  obtain ⟨us, ⟨o, ho, hcl, no, hd⟩, _⟩ := R.lst n a xs ha hx
  have hL : a ≠ f.env.locals := fun q => by
    obtain ⟨o', es, ep, ho', hd', _⟩ := hn
    rw [← q, ho] at ho'; cases ho'; rw [hd] at hd'; cases hd'
  refine ⟨⟨⟨m, cm, hn.sameBut hs (Ne.symm hL), ⟨fun x c e => ?_, hc.apart, hc.above⟩, fun i x d e1 e2 => ?_⟩, fun b ob e => hs.extBut b ob (fun q => ?_) (F.kb b ob e), F.wb⟩, R', ⟨fun b ob e _ _ h3 => hs.extBut b ob (fun q => h3 n (q ▸ ha) hw) e, by simp, fun k hk hnw => ?_, by simp⟩, .sameBut hs (let ⟨k, e⟩ := hl; ⟨_, e⟩)⟩
  · refine (hc.cell x c e).sameBut hs fun q => ?_
    obtain ⟨o', ho', hd'⟩ := hc.cell x c e
    rw [q, ho] at ho'; cases ho'; rw [hd] at hd'; cases hd'
  · obtain ⟨v, hv, r⟩ := hv i x d e1 e2
    exact ⟨v, hv, r.mono (fun _ _ e => e) kt⟩
  · rw [q, F.wb n a ha hw] at e; cases e
  · rw [List.getElem?_set_ne (fun (q : n = k) => hnw (q ▸ hw))]
end
end Mine

set_option autoImplicit false
set_option linter.unusedSimpArgs false
set_option linter.unusedVariables false
namespace Mine
open PySem PyProof.Rows PySem.Calls

section
variable {X : SX} {f : FC}

theorem GF.at {G : GV} {gc : GC} {DT : List DefT} {W : Nat → Prop} {h : Heap} {α : List Addr} {ρ : Loc} (T : GF G gc DT f.hb) (F : FrS G f W h α ρ) : GF G gc DT h := T.keeps F.kb

/-- a statement that ends in a store -/
theorem store_post (K : FCOk f) {W : Nat → Prop} {s : Shared} {α : List Addr} {ρ : Loc} {H : Hp} {N : Loc → Hp → Prop} {R : V → Hp → Prop} {E : Value → Shared → Prop} {i : Nat} {x : Str} (F : FrS X.G f W s.heap α ρ) (hx : f.c.isVar i x = true)
    {v : Value} {s₁ : Shared} (p : Post X.G (Rep X.G) s α H (fun v H1 => N (lset ρ i v) H1) v s₁) :
    wpAny (model X.prog X.w) X.A (storeName f.env x v) (fun _ => PostS X.G f W s α H N R .next) E s₁ := by
  obtain ⟨h₁, tk₁, β, K₁, d, rfl, k, fr, R', r, q⟩ := p
  refine store_var (s := { s with heap := h₁, toks := tk₁ }) K (F.up k fr) hx r fun h' tk F' kf lt lv => ?_
  refine ⟨h', tk, β, H ++ K₁, rfl, ⟨fun b o e h1 h2 _ => kf b o (k b o e) h1 h2, fr, fun n hn _ => List.getElem?_append_left hn, by simp⟩, (Lives.of k).trans lv, R'.lt' lt, _, F', q⟩

noncomputable abbrev notComp := notCompM
theorem swaps_false {e : Expr} (h : notComp e = true) (t : Option Expr) (l : Nat) (env : Env) : swapsWith e t l env = pure false := by
  cases e <;> first | rfl | cases h

theorem ss_assign {i : Nat} {x : Str} {pe : PE} {v : Expr} {px pos : Pos} (K : FCOk f) (hx : f.c.isVar i x = true) (h : SE X f.c pe v) (hc : notComp v = true) : SS X f (.assign i pe) (.Assign [.Name x px] v pos) := fun W s α ρ H N R Y E hW T F HR' hY q => by
  simp only [qS1, qS2, qS3, qS4, qS5, qS6, qS7, qS8, qS9, qS10, qS11, qS12, qS13, qS14, qS15, qS16, qS17, qS18] at q
  refine wpAny_Assign_Name (wpAny_mono (h f.env s α ρ H _ E K.env (T.at F) HR' F.fi q) (fun v s₁ p => ?_) fun _ _ x => x) (swaps_false hc _ _ _)
  exact store_post K F hx p

theorem ss_ret {pe : PE} {v : Expr} {pos : Pos} (K : FCOk f) (h : SE X f.c pe v) : SS X f (.ret pe) (.Return (some v) pos) := fun W s α ρ H N R Y E hW T F HR' hY q => by
  simp only [qS1, qS2, qS3, qS4, qS5, qS6, qS7, qS8, qS9, qS10, qS11, qS12, qS13, qS14, qS15, qS16, qS17, qS18] at q
  refine wpAny_Return_some (wpAny_mono (h f.env s α ρ H _ E K.env (T.at F) HR' F.fi q) (fun v s₁ p => ?_) fun _ _ x => x)
  obtain ⟨h₁, tk₁, β, K₁, d, rfl, k, fr, R', r, q⟩ := p
  exact ⟨h₁, tk₁, β, H ++ K₁, rfl, .of k fr, .of k, R', F.kb.trans k, d, r, q⟩

/-- from a later state -/
theorem PostS.trans {G : GV} {W : Nat → Prop} {s : Shared} {α : List Addr} {H : Hp} {N : Loc → Hp → Prop} {R : V → Hp → Prop} {h₁ : Heap} {tk₁ : Nat} {β : List Addr} {H₁ : Hp} {fl : Flow} {s' : Shared} (st : StepS f W s α H h₁ β H₁) (lv : Lives s.heap h₁)
    (p : PostS G f W { s with heap := h₁, toks := tk₁ } (α ++ β) H₁ N R fl s') : PostS G f W s α H N R fl s' := by
  obtain ⟨h', tk, β', H', rfl, st', lv', R', q⟩ := p
  refine ⟨h', tk, β ++ β', H', rfl, st.trans lv st', lv.trans lv', by simpa using R', ?_⟩
  cases fl with
  | next => obtain ⟨ρ', F', q⟩ := q; exact ⟨ρ', by simpa using F', q⟩
  | ret v => obtain ⟨k, d, r, q⟩ := q; exact ⟨k, d, by simpa using r, q⟩
  | brk => exact q
  | cont => exact q

theorem RaiseOk.later {W : Nat → Prop} {s : Shared} {α : List Addr} {H : Hp} {Y : Nat → Hp → Prop} {E : Value → Shared → Prop} {h₁ : Heap} {tk₁ : Nat} {β : List Addr} {H₁ : Hp} (hY : RaiseOk X f W s α H Y E) (st : StepS f W s α H h₁ β H₁) (lv : Lives s.heap h₁) :
    RaiseOk X f W { s with heap := h₁, toks := tk₁ } (α ++ β) H₁ Y E := fun k stm h' tk β' H' ρ' hm st' lv' R' F' y => by
  exact hY k stm h' tk (β ++ β') H' ρ' hm (st.trans lv st') (lv.trans lv') (by simpa using R') (by simpa using F') y

theorem sb_nil (K : FCOk f) : SB X f .skip [] := fun W s α ρ H N R Y E hW T F HR' hY q => by
  simp only [qS1, qS2, qS3, qS4, qS5, qS6, qS7, qS8, qS9, qS10, qS11, qS12, qS13, qS14, qS15, qS16, qS17, qS18] at q
  exact wpAny_execs_nil ⟨s.heap, s.toks, [], H, rfl, .refl, fun b o e => ⟨o, e⟩, by simpa using HR', ρ, by simpa using F, q⟩

theorem sb_cons {a b : PS} {st : Stmt} {sts : List Stmt} (K : FCOk f) (h1 : SS X f a st) (h2 : SB X f b sts) : SB X f (.seq a b) (st :: sts) := fun W s α ρ H N R Y E hW T F HR' hY q => by
  simp only [qS1, qS2, qS3, qS4, qS5, qS6, qS7, qS8, qS9, qS10, qS11, qS12, qS13, qS14, qS15, qS16, qS17, qS18] at q
  refine wpAny_execs_cons (wpAny_mono (h1 W s α ρ H _ R Y E hW T F HR' hY q) (fun fl s₁ p => ?_) fun _ _ x => x)
  cases fl with
  | next =>
    obtain ⟨h₁, tk₁, β, H₁, rfl, st, lv, R₁, ρ', F', q'⟩ := p
    exact wpAny_mono (h2 W { s with heap := h₁, toks := tk₁ } (α ++ β) ρ' H₁ N R Y E hW T F' R₁ (hY.later st lv) q') (fun _ _ p => p.trans st lv) fun _ _ x => x
  | ret v =>
    obtain ⟨h₁, tk₁, β, H₁, rfl, st, lv, R₁, k, d, r, q'⟩ := p
    exact ⟨h₁, tk₁, β, H₁, rfl, st, lv, R₁, k, d, r, q'⟩
  | brk => obtain ⟨_, _, _, _, _, _, _, _, q⟩ := p; exact q.elim
  | cont => obtain ⟨_, _, _, _, _, _, _, _, q⟩ := p; exact q.elim

theorem ss_ite {c : PE} {a b : PS} {v : Expr} {x y : List Stmt} {pos : Pos} (K : FCOk f) (h : SC X f.c c v) (h1 : SB X f a x) (h2 : SB X f b y) : SS X f (.ite c a b) (.If v x y pos) := fun W s α ρ H N R Y E hW T F HR' hY q => by
  simp only [qS1, qS2, qS3, qS4, qS5, qS6, qS7, qS8, qS9, qS10, qS11, qS12, qS13, qS14, qS15, qS16, qS17, qS18] at q
  refine wpAny_If (wpAny_mono (h f.env s α ρ H (fun t H1 => if t then wpS X.sub X.Φ W a ρ H1 N R Y else wpS X.sub X.Φ W b ρ H1 N R Y) E K.env (T.at F) HR' F.fi q) (fun t s₁ p => ?_) fun _ _ x => x)
  obtain ⟨h₁, tk₁, β, K₁, t', rfl, k, fr, R', rfl, q'⟩ := p
  have st : StepS f W s α H h₁ β (H ++ K₁) := .of k fr
  cases t with
  | true =>
    simp only [if_true] at q' ⊢
    exact wpAny_mono (h1 W { s with heap := h₁, toks := tk₁ } (α ++ β) ρ (H ++ K₁) N R Y E hW T (F.up k fr) R' (hY.later st (.of k)) q') (fun _ _ p => p.trans st (.of k)) fun _ _ x => x
  | false =>
    simp only [Bool.false_eq_true, if_false] at q' ⊢
    exact wpAny_mono (h2 W { s with heap := h₁, toks := tk₁ } (α ++ β) ρ (H ++ K₁) N R Y E hW T (F.up k fr) R' (hY.later st (.of k)) q') (fun _ _ p => p.trans st (.of k)) fun _ _ x => x

theorem raise_none {W : Nat → Prop} {s : Shared} {α : List Addr} {H : Hp} {E : Value → Shared → Prop} : RaiseOk X f W s α H (fun _ _ => False) E := fun _ _ _ _ _ _ _ _ _ _ _ _ y => y.elim

theorem ss_whl {c : PE} {b : PS} {v : Expr} {x : List Stmt} {pos : Pos} (K : FCOk f) (h : SC X f.c c v) (h1 : SB X f b x) : SS X f (.whl c b) (.While v x [] pos) := fun W s α ρ H N R Y E hW T F HR' hY q => by
  simp only [qS1, qS2, qS3, qS4, qS5, qS6, qS7, qS8, qS9, qS10, qS11, qS12, qS13, qS14, qS15, qS16, qS17, qS18] at q
  obtain ⟨I, μ, hI, turn⟩ := q
  refine wpAny_While (codeAny_whileLoop
    (fun n s' => ∃ h' tk β H' ρ', s' = { s with heap := h', toks := tk } ∧ StepS f W s α H h' β H' ∧ Lives s.heap h' ∧ HR X.G (α ++ β) h' H' ∧ FrS X.G f W h' (α ++ β) ρ' ∧ I ρ' H' ∧ n = μ ρ' H') ?_ (μ ρ H)
    ⟨s.heap, s.toks, [], H, ρ, rfl, .refl, fun b o e => ⟨o, e⟩, by simpa using HR', by simpa using F, hI, rfl⟩)
  rintro n s' ⟨h', tk, β, H', ρ', rfl, st, lv, R', F', hI', rfl⟩
  have q := turn ρ' H' hI'
  refine wpAny_mono (h f.env { s with heap := h', toks := tk } (α ++ β) ρ' H' (fun t H2 => if t then wpS X.sub X.Φ W b ρ' H2 (fun ρ3 H3 => I ρ3 H3 ∧ μ ρ3 H3 < μ ρ' H') R (fun _ _ => False) else N ρ' H2) _ K.env (T.at F') R' F'.fi q) (fun t s₁ p => ?_) fun _ _ x => x
  obtain ⟨h₁, tk₁, γ, K₁, t', rfl, k, fr, R₁, rfl, q'⟩ := p
  dsimp only at k fr
  have st1 : StepS f W { s with heap := h', toks := tk } (α ++ β) H' h₁ γ (H' ++ K₁) := .of k fr
  have st2 := st.trans lv st1
  have lv2 := lv.trans (.of k)
  have F₁ := F'.up k fr
  cases t with
  | true =>
    simp only [if_true] at q' ⊢
    refine wpAny_mono (h1 W { s with heap := h₁, toks := tk₁ } ((α ++ β) ++ γ) ρ' (H' ++ K₁) _ R _ _ hW T F₁ R₁ raise_none q') (fun fl s₂ p => ?_) fun _ _ x => x
    cases fl with
    | next =>
      obtain ⟨h₂, tk₂, δ, H₂, rfl, st3, lv3, R₂, ρ₂, F₂, hI₂, hμ⟩ := p
      refine ⟨_, hμ, h₂, tk₂, (β ++ γ) ++ δ, H₂, ρ₂, rfl, st2.trans (tk := tk₁) lv2 (by simpa using st3), lv2.trans lv3, by simpa using R₂, by simpa using F₂, hI₂, rfl⟩
    | ret v =>
      obtain ⟨h₂, tk₂, δ, H₂, rfl, st3, lv3, R₂, kk, d, r, q₂⟩ := p
      exact ⟨h₂, tk₂, (β ++ γ) ++ δ, H₂, rfl, st2.trans (tk := tk₁) lv2 (by simpa using st3), lv2.trans lv3, by simpa using R₂, kk, d, by simpa using r, q₂⟩
    | brk => obtain ⟨_, _, _, _, _, _, _, _, q⟩ := p; exact q.elim
    | cont => obtain ⟨_, _, _, _, _, _, _, _, q⟩ := p; exact q.elim
  | false =>
    simp only [Bool.false_eq_true, if_false] at q' ⊢
    refine wpAny_execs_nil ?_
    exact ⟨h₁, tk₁, β ++ γ, H' ++ K₁, rfl, st2, lv2, by simpa using R₁, ρ', by simpa using F₁, q'⟩
end
end Mine

set_option autoImplicit false
set_option linter.unusedSimpArgs false
set_option linter.unusedVariables false
namespace Mine
open PySem PyProof.Rows PySem.Calls

section
variable {X : SX} {f : FC}

theorem notL {G : GV} {W : Nat → Prop} {h : Heap} {α : List Addr} {ρ : Loc} (F : FrS G f W h α ρ) {b : Addr} {o : Obj} (e : h.get? b = some o) (hd : ∀ es n, o.data ≠ .dict es n) : b ≠ f.env.locals := fun q => by
  obtain ⟨m, cm, ⟨o', es, ep, ho', hd', _⟩, _⟩ := F.fr
  rw [← q, e] at ho'; cases ho'; exact hd _ _ hd'
theorem notCell {G : GV} {W : Nat → Prop} {h : Heap} {α : List Addr} {ρ : Loc} (K : FCOk f) (F : FrS G f W h α ρ) {b : Addr} {o : Obj} (e : h.get? b = some o) (hd : ∀ v, o.data ≠ .cell v) : ∀ n, (n, b) ∉ f.env.cells := fun n hm => by
  obtain ⟨m, cm, _, hc, _⟩ := F.fr
  obtain ⟨o', ho', hd'⟩ := hc.cell n b (K.uniq n b hm)
  rw [e] at ho'; cases ho'; exact hd _ hd'
theorem notList {G : GV} {h : Heap} {α : List Addr} {H : Hp} (R : HR G α h H) {b : Addr} {o : Obj} (e : h.get? b = some o) (hd : o.cls ≠ .type "list" ∨ ∀ xs n, o.data ≠ .seq xs n) (n : Nat) : α[n]? ≠ some b := fun ha => by
  obtain ⟨xs, hx⟩ := R.at ha
  obtain ⟨vs, ⟨o', ho', hc', k, hd'⟩, _⟩ := R.lst n b xs ha hx
  rw [e] at ho'; cases ho'
  rcases hd with hd | hd
  · exact hd hc'
  · exact hd _ _ hd'

theorem StepS.tup {G : GV} {W : Nat → Prop} {s : Shared} {α : List Addr} {H : Hp} {ρ : Loc} {h' : Heap} {β : List Addr} {H' : Hp} (K : FCOk f) (F : FrS G f W s.heap α ρ) (R : HR G α s.heap H) (st : StepS f W s α H h' β H') : KeepsT s.heap h' := fun a items x => by
  obtain ⟨o, ho, hc, n, hd⟩ := x
  refine ⟨o, st.keep a o ho (notL F ho (by simp [hd])) (notCell K F ho (by simp [hd])) fun k hk => ?_, hc, n, hd⟩
  exact absurd hk (notList R ho (.inl (by rw [hc]; decide)) k)
theorem StepS.weak {W W' : Nat → Prop} {s : Shared} {α : List Addr} {H : Hp} {h' : Heap} {β : List Addr} {H' : Hp} (hw : ∀ n, W' n → W n) (st : StepS f W' s α H h' β H') : StepS f W s α H h' β H' :=
  ⟨fun b o e h1 h2 h3 => st.keep b o e h1 h2 fun n hn w => h3 n hn (hw n w), st.fresh, fun n hn w => st.same n hn fun x => w (hw n x), st.le⟩

/-- the iterator moves -/
theorem FrS.off {G : GV} {W : Nat → Prop} {h h' : Heap} {α : List Addr} {ρ : Loc} {wr : List Addr} (K : FCOk f) (F : FrS G f W h α ρ) (hwr : ∀ b ∈ wr, ∃ o vs, h.get? b = some o ∧ o.data = .fields vs) (hdead : ∀ b ∈ wr, f.hb.get? b = none)
    (hk : ∀ b o, b ∉ wr → h.get? b = some o → h'.get? b = some o) (lt : KeepsLT h h') : FrS G f W h' α ρ := by
  obtain ⟨m, cm, hn, hc, hv⟩ := F.fr
  refine ⟨⟨m, cm, hn.at' fun o e => hk _ o (fun hm => ?_) e, ⟨fun x a e => ?_, hc.apart, hc.above⟩, fun i x d e1 e2 => ?_⟩, fun b o e => hk b o (fun hm => ?_) (F.kb b o e), F.wb⟩
  · obtain ⟨o', vs, e', d'⟩ := hwr _ hm
    exact notL F e' (by simp [d']) rfl
  · obtain ⟨o, ho, hd⟩ := hc.cell x a e
    refine ⟨o, hk a o (fun hm => ?_) ho, hd⟩
    obtain ⟨o', vs, e', d'⟩ := hwr _ hm
    rw [ho] at e'; cases e'; rw [hd] at d'; cases d'
  · obtain ⟨v, hv, r⟩ := hv i x d e1 e2
    exact ⟨v, hv, r.mono (fun _ _ e => e) lt.tup⟩
  · rw [hdead b hm] at e; cases e

theorem ss_forr {i : Nat} {x : Str} {pit : PI} {b : PS} {iter : Expr} {body : List Stmt} {px pos : Pos} (K : FCOk f) (hx : f.c.isVar i x = true) (h : SI X f.c pit iter) (hns : notSet iter = true) (h1 : SB X f b body) :
    SS X f (.forr i pit b) (.For (.Name x px) iter body [] pos) := fun W s α ρ H N R Y E hW T F HR' hY q => by
  simp only [qS1, qS2, qS3, qS4, qS5, qS6, qS7, qS8, qS9, qS10, qS11, qS12, qS13, qS14, qS15, qS16, qS17, qS18] at q
  refine wpAny_For (wpAny_mono (h f.env s α ρ H _ E K.env (T.at F) HR' F.fi q) (fun xv s₁ p => wpAny_mono p (fun it s₂ p => ?_) fun _ _ e => e) fun _ _ e => e) (folded_pure hns f.env)
  obtain ⟨h₁, tk₁, β₁, K₁, xs, src, k₁, f₁, R₁, ⟨I, fp, wr, P, St, h₂, tk₂, rfl, rfl, k₂, Wk, hst, hwr, hfield, hfp, hsrc, hP⟩, hgo⟩ := p
  dsimp only at k₂ hwr
  have k12 : KeepsH s.heap h₂ := k₁.trans k₂
  have deadS : ∀ b ∈ wr, s.heap.get? b = none := fun b hb => by
    cases e : s.heap.get? b with
    | none => rfl
    | some o => have := hwr b hb; rw [k₁ b o e] at this; cases this
  have deadB : ∀ b ∈ wr, f.hb.get? b = none := fun b hb => by
    cases e : f.hb.get? b with
    | none => rfl
    | some o => have := deadS b hb; rw [F.kb b o e] at this; cases this
  have hWW : ∀ m, (W m ∧ some m ≠ src) → W m := fun m h => h.1
  refine codeAny_forLoop (fun n s' => ∃ j h' tk γ H' ρ', s' = { s with heap := h', toks := tk } ∧ j ≤ xs.length ∧ n = xs.length + 1 - j ∧ St j h' ∧ StepS f W s α H h' (β₁ ++ γ) H' ∧ Lives s.heap h' ∧ HR X.G (α ++ (β₁ ++ γ)) h' H' ∧ FrS X.G f W h' (α ++ (β₁ ++ γ)) ρ' ∧ KeepsT h₂ h' ∧
      (∀ b ∈ fp, b ∉ wr → (∃ n, src = some n ∧ (α ++ (β₁ ++ γ))[n]? = some b) ∨ ∃ items, IsTup h' b items) ∧
      forGo (fun ρ2 H2 k => wpS X.sub X.Φ (fun m => W m ∧ some m ≠ src) b ρ2 H2 k R fun _ _ => False) i (xs.drop j) ρ' H' N) ?_ (xs.length + 1)
    ⟨0, h₂, tk₂, [], H ++ K₁, ρ, rfl, Nat.zero_le _, rfl, hst, by simpa using (StepS.of (f := f) (W := W) (α := α) (H := H) (K := K₁) k12 f₁), .of k12, by simpa using R₁.keeps k₂, by simpa using F.up k12 f₁, fun _ _ x => x, by simpa using hsrc, by simpa using hgo⟩
  rintro n s' ⟨j, h', tk, γ, H', ρ', rfl, hj, rfl, hstj, st, lv, R', F', kt, hsrc', hgo'⟩
  have off : ∀ h'' : Heap, (∀ b o, b ∉ wr → h'.get? b = some o → h''.get? b = some o) → KeepsLT h' h'' := fun h'' hk a o items n e d => hk a o (fun hm => by
    obtain ⟨o', vs, e', d'⟩ := hfield j h' hstj a hm
    rw [e] at e'; cases e'; rw [d] at d'; cases d') e
  have stOff : ∀ h'' : Heap, (∀ b o, b ∉ wr → h'.get? b = some o → h''.get? b = some o) → StepS f W s α H h'' (β₁ ++ γ) H' ∧ Lives s.heap h'' := fun h'' hk =>
    ⟨⟨fun b o e a1 a2 a3 => hk b o (fun hm => by rw [deadS b hm] at e; cases e) (st.keep b o e a1 a2 a3), st.fresh, st.same, st.le⟩,
      fun b o e => by obtain ⟨o', e'⟩ := lv b o e; exact ⟨o', hk b o' (fun hm => by rw [deadS b hm] at e; cases e) e'⟩⟩
  by_cases hlt : j < xs.length
  · refine Wk.item j _ _ _ hlt hstj fun v h'' tk' hPv hst'' hk'' => ?_
    have lt1 := off h'' hk''
    obtain ⟨st1, lv1⟩ := stOff h'' hk''
    have F1 := F'.off K (hfield j h' hstj) deadB hk'' lt1
    have R1 := R'.lt' lt1
    have kt1 : KeepsT h₂ h'' := fun a items x => lt1.tup a items (kt a items x)
    obtain ⟨d, hd, rd⟩ := hP j v hlt hPv
    have rd1 : Rep X.G (α ++ (β₁ ++ γ)) h'' v d := by
      have := rd.mono (α' := (α ++ β₁) ++ γ) ext_app kt1
      rwa [List.append_assoc] at this
    refine wpAny_assign_Name (store_var (s := { s with heap := h'', toks := tk' }) K F1 hx rd1 fun h₃ tk₃ F3 kf3 lt3 lv3 => ?_)
    dsimp only at kf3 lt3 lv3
    have R3 := R1.lt' lt3
    have kt3 : KeepsT h₂ h₃ := fun a items x => lt3.tup a items (kt1 a items x)
    have st3 : StepS f W s α H h₃ (β₁ ++ γ) H' := ⟨fun b o e a1 a2 a3 => kf3 b o (st1.keep b o e a1 a2 a3) a1 a2, st1.fresh, st1.same, st1.le⟩
    have lv13 := lv1.trans lv3
    -- what the iterator reads is kept by the store
    have st3' : St (j + 1) h₃ := Wk.frame _ _ _ hst'' fun b hb o e => by
      by_cases hbw : b ∈ wr
      · obtain ⟨o', vs, e', d'⟩ := hfield (j + 1) h'' hst'' b hbw
        rw [e] at e'; cases e'
        exact kf3 b o e (notL F1 e (by simp [d'])) (notCell K F1 e (by simp [d']))
      · rcases hsrc' b hb hbw with ⟨n, hn, ha⟩ | ⟨items, hi⟩
        · obtain ⟨ys, hy⟩ := R1.at ha
          obtain ⟨vs, ⟨o', ho', hc', kk, hd'⟩, _⟩ := R1.lst n b ys ha hy
          rw [e] at ho'; cases ho'
          exact lt3 b o _ _ e hd'
        · obtain ⟨o', ho', hc', kk, hd'⟩ := lt1.tup b items hi
          rw [e] at ho'; cases ho'
          exact lt3 b o _ _ e hd'
    have hdrop : xs.drop j = d :: xs.drop (j + 1) := by
      obtain ⟨hl, he⟩ := List.getElem?_eq_some_iff.mp hd
      rw [List.drop_eq_getElem_cons hl, he]
    rw [hdrop] at hgo'
    simp only [forGo] at hgo'
    refine wpAny_mono (h1 (fun m => W m ∧ some m ≠ src) { s with heap := h₃, toks := tk₃ } (α ++ (β₁ ++ γ)) (lset ρ' i d) H' _ R _ _ (fun n hn => hW n hn.1) T (F3.weak hWW) R3 raise_none hgo') (fun fl s₄ p => ?_) fun _ _ e => e
    obtain ⟨h₄, tk₄, δ, H₄, rfl, st4, lv4, R4, q4⟩ := p
    have stAll : StepS f W s α H h₄ ((β₁ ++ γ) ++ δ) H₄ := st3.trans (tk := tk₃) lv13 (st4.weak hWW)
    have lvAll := lv13.trans lv4
    cases fl with
    | next =>
      obtain ⟨ρ₄, F4, q4⟩ := q4
      have kt4 : KeepsT h₃ h₄ := st4.tup K (F3.weak hWW) R3
      refine ⟨xs.length + 1 - (j + 1), by omega, j + 1, h₄, tk₄, γ ++ δ, H₄, ρ₄, rfl, hlt, rfl, ?_, by simpa using stAll, lvAll, by simpa using R4, ?_, fun a items x => kt4 a items (kt3 a items x), fun b hb hbw => ?_, q4⟩
      · refine Wk.frame _ _ _ st3' fun b hb o e => ?_
        by_cases hbw : b ∈ wr
        · obtain ⟨o', vs, e', d'⟩ := hfield (j + 1) h₃ st3' b hbw
          rw [e] at e'; cases e'
          exact st4.keep b o e (notL F3 e (by simp [d'])) (notCell K F3 e (by simp [d'])) fun n hn => absurd hn (notList R3 e (.inr (by simp [d'])) n)
        · rcases hsrc' b hb hbw with ⟨n, hn, ha⟩ | ⟨items, hi⟩
          · obtain ⟨ys, hy⟩ := R3.at ha
            obtain ⟨vs, ⟨o', ho', hc', kk, hd'⟩, _⟩ := R3.lst n b ys ha hy
            rw [e] at ho'; cases ho'
            refine st4.keep b o e (notL F3 e (by simp [hd'])) (notCell K F3 e (by simp [hd'])) fun m hm hw => ?_
            obtain ⟨l1, g1⟩ := List.getElem?_eq_some_iff.mp ha
            obtain ⟨l2, g2⟩ := List.getElem?_eq_some_iff.mp hm
            have : m = n := (List.getElem_inj R3.nodup).mp (g2.trans g1.symm)
            exact hw.2 (by rw [this, hn])
          · obtain ⟨o', ho', hc', kk, hd'⟩ := lt3.tup b items (lt1.tup b items hi)
            rw [e] at ho'; cases ho'
            exact st4.keep b o e (notL F3 e (by simp [hd'])) (notCell K F3 e (by simp [hd'])) fun n hn => absurd hn (notList R3 e (.inl (by rw [hc']; decide)) n)
      · -- the frame, with the lists of the loop's outside
        obtain ⟨fr4, kb4, wb4⟩ := F4
        refine ⟨by simpa using fr4, kb4, fun n a ha hw => ?_⟩
        rw [← List.append_assoc, ← List.append_assoc] at ha
        by_cases hl : n < (α ++ β₁ ++ γ).length
        · rw [List.getElem?_append_left hl] at ha
          exact F3.wb n a (by simpa using ha) hw
        · rw [List.getElem?_append_right (by omega)] at ha
          have hm := st4.fresh a (List.mem_of_getElem? ha)
          cases e : f.hb.get? a with
          | none => rfl
          | some o => have := F3.kb a o e; rw [show ({ s with heap := h₃, toks := tk₃ } : Shared).heap.get? a = none from hm] at this; cases this
      · rcases hsrc' b hb hbw with ⟨n, hn, ha⟩ | ⟨items, hi⟩
        · refine .inl ⟨n, hn, ?_⟩
          have := ext_app (β := δ) n b ha
          simpa using this
        · exact .inr ⟨items, kt4 b items (lt3.tup b items (lt1.tup b items hi))⟩
    | ret v =>
      obtain ⟨kk, d, r, q4⟩ := q4
      exact ⟨h₄, tk₄, (β₁ ++ γ) ++ δ, H₄, rfl, stAll, lvAll, by simpa using R4, kk, d, by simpa using r, q4⟩
    | brk => exact q4.elim
    | cont => exact q4.elim
  · have hin : j = xs.length := by omega
    subst hin
    refine Wk.done _ _ _ hstj fun h'' tk' hk'' => wpAny_execs_nil ?_
    have lt1 := off h'' hk''
    obtain ⟨st1, lv1⟩ := stOff h'' hk''
    refine ⟨h'', tk', β₁ ++ γ, H', rfl, st1, lv1, R'.lt' lt1, ρ', F'.off K (hfield _ h' hstj) deadB hk'' lt1, ?_⟩
    simpa [forGo] using hgo'
end
end Mine

set_option autoImplicit false
set_option linter.unusedSimpArgs false
set_option linter.unusedVariables false
namespace Mine
open PySem PyProof.Rows PySem.Calls

section
variable {X : SX} {f : FC}

/-- behind a write -/
theorem write_post {W : Nat → Prop} {s : Shared} {α : List Addr} {ρ : Loc} {H : Hp} {N : Loc → Hp → Prop} {R : V → Hp → Prop} {h₁ h₂ : Heap} {tk₁ tk₂ : Nat} {β : List Addr} {K₁ : Hp} {n : Nat} {xs' : List V} (k : KeepsH s.heap h₁) (fr : ∀ b ∈ β, s.heap.get? b = none)
    (p : FrS X.G f W h₂ (α ++ β) ρ ∧ HR X.G (α ++ β) h₂ ((H ++ K₁).set n xs') ∧ StepS f W { s with heap := h₁, toks := tk₁ } (α ++ β) (H ++ K₁) h₂ [] ((H ++ K₁).set n xs') ∧ Lives h₁ h₂) (q : N ρ ((H ++ K₁).set n xs')) :
    PostS X.G f W s α H N R .next { s with heap := h₂, toks := tk₂ } := by
  obtain ⟨F', R', st, lv⟩ := p
  have := (StepS.of (f := f) (W := W) (α := α) (H := H) (K := K₁) k fr).trans (Lives.of k) st
  exact ⟨h₂, tk₂, β, _, rfl, by simpa using this, (Lives.of k).trans lv, R', ρ, F', q⟩

theorem ss_setidx {i : Nat} {x : Str} {pk pe : PE} {j v : Expr} {px pp pos : Pos} (K : FCOk f) (hx : f.c.isVar i x = true) (hk : SE X f.c pk j) (h : SE X f.c pe v) (hc : notComp v = true) :
    SS X f (.setidx i pk pe) (.Assign [.Subscript (.Name x px) j pp] v pos) := fun W s α ρ H N R Y E hW T F HR' hY q => by
  simp only [qS1, qS2, qS3, qS4, qS5, qS6, qS7, qS8, qS9, qS10, qS11, qS12, qS13, qS14, qS15, qS16, qS17, qS18] at q
  refine wpAny_Assign_Subscript (wpAny_mono (h f.env s α ρ H _ E K.env (T.at F) HR' F.fi q) (fun v s₁ p => ?_) fun _ _ x => x) (swaps_false hc _ _ _)
  refine p.go fun h₁ tk₁ β K₁ d k₁ fr₁ R₁ r₁ q₁ => ?_
  have F₁ := F.up k₁ fr₁
  obtain ⟨n, hl, hw, q₁⟩ := ifLst.get q₁
  obtain ⟨u, hu, ru⟩ := F₁.fi i x _ (MC.isVar_spec hx).1 hl
  refine load_var (s := { s with heap := h₁, toks := tk₁ }) K.env hx hu ?_
  refine wpAny_mono (hk f.env { s with heap := h₁, toks := tk₁ } (α ++ β) ρ (H ++ K₁) _ E K.env (T.at F₁) R₁ F₁.fi q₁) (fun iv s₃ p => ?_) fun _ _ x => x
  obtain ⟨h₂, tk₂, γ, K₂, kv, rfl, k₂, fr₂, R₂, r₂, q₂⟩ := p
  obtain ⟨jj, rfl, q₂⟩ := ifInt.get q₂
  obtain ⟨xs, hxs, q₂⟩ := ifSome.get q₂
  obtain ⟨pl, hpl, q₂⟩ := ifSome.get q₂
  dsimp only at k₂ fr₂
  have F₂ := F₁.up k₂ fr₂
  cases r₂ with
  | int _ t =>
    cases ru with
    | lst ha =>
      have ha₂ := ext_app (β := γ) _ _ ha
      obtain ⟨vs, hli, rs, z, pp⟩ := R₂.lst n _ xs ha₂ hxs
      have hpl' := pp (by have := hW n hw; omega)
      have hlen := rs.len
      have zz : xs.length ≤ 1000000 := z
      refine setItem_plain (s := { s with heap := h₂, toks := tk₂ }) hpl' (by rw [List.size_toArray, hlen]; exact hpl) (by rw [List.size_toArray]; omega) ?_
      have wl := write_list (s := { s with heap := h₂, toks := tk₂ }) (vs' := vs.set pl v) (xs' := xs.set pl d) K F₂ R₂ hw ha₂ hxs (Heap.SameBut.update ..) (by simpa using upd_plain hpl' (·.setIfInBounds pl v)) (rs.set (r₁.up k₂) pl) (by rw [List.length_set]; exact z)
      have st1 : StepS f W s α H h₁ β (H ++ K₁) := .of k₁ fr₁
      have st2 : StepS f W { s with heap := h₁, toks := tk₁ } (α ++ β) (H ++ K₁) h₂ γ (H ++ K₁ ++ K₂) := .of k₂ fr₂
      have st12 := st1.trans (Lives.of k₁) st2
      obtain ⟨F₃, R₃, st3, lv3⟩ := wl
      have st := st12.trans (tk := tk₂) ((Lives.of k₁).trans (.of k₂)) (by simpa using st3)
      exact ⟨_, tk₂, β ++ γ, _, rfl, by simpa using st, ((Lives.of k₁).trans (.of k₂)).trans lv3, by simpa using R₃, ρ, by simpa using F₃, q₂⟩

theorem listMethod {prog : Program} {w : World} {A : Around} {E : Value → Shared → Prop} {s : Shared} {name : Str} {id : String} {a : Addr} {items : Array Value} {pos : Pos} {args : List (Bool × Sem Value)} {Q : Value → Shared → Prop} (slot : Slot "list" name id)
    (hty : typeOf (.builtin id) = pure (.type "method_descriptor")) (hl : s.heap.PlainList a items) (h : wpAny (model prog w) A (callWith pos (.builtin id) [.ref a] args []) Q E s) : MethodOnS prog w A E name (.ref a) pos args Q s := by
  refine ⟨"list", id, PySem.F.plainAttrs_list, slot, hty, hl.isList.typeIs, fun b e => ?_, h⟩
  cases e
  obtain ⟨n, ho⟩ := hl
  exact ⟨_, ho, rfl⟩

theorem ss_app {i : Nat} {x a : Str} {pe : PE} {v : Expr} {px ap cp pos : Pos} (K : FCOk f) (hx : f.c.isVar i x = true) (ha : a = Str.ofString "append") (hli : ap.endLine = cp.line) (hn : notStar v = true) (h : SE X f.c pe v) :
    SS X f (.app i pe) (.Expr (.Call (.Attribute (.Name x px) a ap) [v] [] cp) pos) := fun W s α ρ H N R Y E hW T F HR' hY q => by
  subst ha
  simp only [qS1, qS2, qS3, qS4, qS5, qS6, qS7, qS8, qS9, qS10, qS11, qS12, qS13, qS14, qS15, qS16, qS17, qS18] at q
  obtain ⟨n, hl, hw, q⟩ := ifLst.get q
  obtain ⟨u, hu, ru⟩ := F.fi i x _ (MC.isVar_spec hx).1 hl
  cases ru with
  | lst ha =>
    obtain ⟨xs₀, hx₀⟩ := HR'.at ha
    obtain ⟨vs₀, _, _, _, pp₀⟩ := HR'.lst n _ xs₀ ha hx₀
    have hpl₀ := pp₀ (by have := hW n hw; omega)
    refine wpAny_Expr (Call_method1 rfl (starEach_cons hn) (by simp [hli]) (load_var K.env hx hu ?_)) (by have := K.env.kind; simp [interactive, this]) (swaps_false rfl _ _ _)
    refine listMethod PySem.F.slot_list_append PySem.F.type_list_append hpl₀ (P.append_list ?_)
    refine wpAny_mono (h f.env s α ρ H _ E K.env (T.at F) HR' F.fi q) (fun v s₁ p => ?_) fun _ _ x => x
    obtain ⟨h₁, tk₁, β, K₁, d, rfl, k₁, fr₁, R₁, r₁, q₁⟩ := p
    obtain ⟨xs, hxs, hlt, q₁⟩ := ifSome.get q₁
    have F₁ := F.up k₁ fr₁
    have ha₁ := ext_app (β := β) _ _ ha
    obtain ⟨vs, _, rs, z, pp⟩ := R₁.lst n _ xs ha₁ hxs
    have hpl := pp (by have := hW n hw; omega)
    have hlen := rs.len
    obtain ⟨ne, ho⟩ := id hpl
    refine ⟨vs.toArray, ne, by rw [List.size_toArray]; have := lim_le; omega, ho, ?_⟩
    have wl := write_list (s := { s with heap := h₁, toks := tk₁ }) (vs' := vs ++ [v]) (xs' := xs ++ [d]) K F₁ R₁ hw ha₁ hxs (Heap.SameBut.update ..) (by simpa using upd_plain hpl (·.push v)) (rs.append (.cons r₁ .nil)) (by rw [List.length_append]; simp; omega)
    exact write_post k₁ fr₁ wl q₁

end
end Mine

set_option autoImplicit false
set_option linter.unusedSimpArgs false
set_option linter.unusedVariables false
namespace Mine
open PySem PyProof.Rows PySem.Calls

section
variable {X : SX} {f : FC}

/-- a new object turns that is none of the frame's -/
theorem FrS.other {G : GV} {W : Nat → Prop} {h h' : Heap} {α : List Addr} {ρ : Loc} {C : Addr} (K : FCOk f) (F : FrS G f W h α ρ) (hs : Heap.SameBut C h h') (hL : C ≠ f.env.locals) (hc : ∀ n, (n, C) ∉ f.env.cells) (hb : f.hb.get? C = none) (kt : KeepsT h h') : FrS G f W h' α ρ := by
  obtain ⟨m, cm, hn, hcl, hv⟩ := F.fr
  refine ⟨⟨m, cm, hn.sameBut hs (Ne.symm hL), ⟨fun x a e => (hcl.cell x a e).sameBut hs fun q => hc x (q ▸ PySem.mem_of_lookup e), hcl.apart, hcl.above⟩, fun i x d e1 e2 => ?_⟩, fun b o e => hs.extBut b o (fun q => by rw [q, hb] at e; cases e) (F.kb b o e), F.wb⟩
  obtain ⟨v, hv, r⟩ := hv i x d e1 e2
  exact ⟨v, hv, r.mono (fun _ _ e => e) kt⟩

theorem FrS.deadH {G : GV} {W : Nat → Prop} {s : Heap} {α : List Addr} {ρ : Loc} (F : FrS G f W s α ρ) {b : Addr} (e : s.get? b = none) : f.hb.get? b = none := by
  cases e' : f.hb.get? b with
  | none => rfl
  | some o => have := F.kb b o e'; rw [e] at this; cases this

theorem ss_assign_comp {i : Nat} {y : Str} {py spos : Pos} {elt iter : Expr} {x : Str} {px pos : Pos} {ifs : List Expr} {sc : Scope} {cs : List Str} {pelt : PE} {caps : List Nat} {pit : PI} {cond : PO} (KK : FCOk f) (hy : f.c.isVar i y = true)
    (K : CompOk f.c sc x cs caps) (h1 : SE X ⟨f.c.g, sc, x :: cs⟩ pelt elt) (h2 : SIfs X ⟨f.c.g, sc, x :: cs⟩ cond ifs) (h3 : SI X f.c pit iter) (hns : notSet iter = true) :
    SS X f (.assign i (.comp pelt 1 caps pit cond)) (.Assign [.Name y py] (.ListComp elt [⟨.Name x px, iter, ifs, 0⟩] sc pos) spos) := fun W s α ρ H N R Y E hW T F HR' hY q => by
  have hsw : ∃ b, swapsWith (.ListComp elt [⟨.Name x px, iter, ifs, 0⟩] sc pos) (some (.Name y py)) spos.line f.env = pure b := ⟨_, rfl⟩
  obtain ⟨b, hsw⟩ := hsw
  cases b with
  | false =>
    simp only [qS1, qS2, qS3, qS4, qS5, qS6, qS7, qS8, qS9, qS10, qS11, qS12, qS13, qS14, qS15, qS16, qS17, qS18] at q
    refine wpAny_Assign_Name (wpAny_mono (se_comp K h1 h2 h3 hns f.env s α ρ H _ E KK.env (T.at F) HR' F.fi q) (fun v s₁ p => ?_) fun _ _ x => x) hsw
    exact store_post KK F hy p
  | true =>
    simp only [qS1, qS2, qS3, qS4, qS5, qS6, qS7, qS8, qS9, qS10, qS11, qS12, qS13, qS14, qS15, qS16, qS17, qS18, qE1, qE2, qE3, qE4, qE5, qE6, qE7, qE8, qE9, qE10, qE11, qE12, qE13, qE14, qE15, qE16, qE17, qE18, qE19, qE20, qE21, qE22] at q
    rw [exec_Assign_Name_used _ _ _ _ hsw]
    refine wpAny_bind (wpAny_standAt (wpAny_bind ?_))
    rw [arm_evalThenUse_ListComp]
    refine wpAny_bind (wpAny_mono (Q := fun _ s' => PostS X.G f W s α H N R .next s') ?_ (fun _ _ p => wpAny_pure (wpAny_pure p)) fun _ _ e => e)
    refine wpAny_comprehension_free (use := some (assign (.Name y py) f.env)) rfl (folded_pure hns f.env) (K.clos KK.env) K.kind K.names (wpAny_mono (h3 f.env s α ρ H _ E KK.env (T.at F) HR' F.fi q) (fun xv s₁ p => wpAny_mono p (fun it s₂ p => ?_) fun _ _ e => e) fun _ _ e => e)
    refine comp_core K h1 h2 f.env s α ρ H _ E KK.env (T.at F) F.fi it s₂ p (fun acc C => compPost (model X.prog X.w) X.A E (some (assign (.Name y py) f.env)) (fun _ s' => PostS X.G f W s α H N R .next s') acc C) fun D C s' p => ?_
    obtain ⟨h', tk, β, K₁, ys, ds, m, rfl, k, fr, R', dD, dC, hDC, hD, hpl, rys, z, hn, q'⟩ := p
    -- the new list joins the lists
    have fr' : ∀ b ∈ β ++ [D], s.heap.get? b = none := fun b hb => by
      rcases List.mem_append.mp hb with hb | hb
      · exact fr b hb
      · simp at hb; subst hb; exact dD
    have F' := F.up k fr'
    have R'' : HR X.G (α ++ (β ++ [D])) h' (H ++ (K₁ ++ [ds])) := by
      have := R'.push (.refl _) hD hpl rys z
      simpa using this
    have rD : Rep X.G (α ++ (β ++ [D])) h' (.ref D) (.lst (H ++ K₁).length) := by
      refine Rep.lst ?_
      rw [← R'.len, ← List.append_assoc, List.getElem?_append_right (Nat.le_refl _)]; simp
    have hCL : C ≠ f.env.locals := fun q => by obtain ⟨o, ho⟩ := F.alive; rw [← q, dC] at ho; cases ho
    have hCc : ∀ n, (n, C) ∉ f.env.cells := fun n hm => by
      obtain ⟨m, cm, _, hc, _⟩ := F.fr
      obtain ⟨o', ho', hd'⟩ := hc.cell n C (KK.uniq n C hm)
      rw [dC] at ho'; cases ho'
    show wpAny _ _ (assign (.Name y py) f.env (.ref D)) _ _ _
    refine wpAny_assign_Name (store_var (s := { s with heap := h', toks := tk }) KK F' hy rD fun h₃ tk₃ F3 kf3 lt3 lv3 => ?_)
    dsimp only at kf3 lt3 lv3
    obtain ⟨oC, es, ep, hoC, hdC, hkC, hfC⟩ := id hn
    have hoC3 := kf3 C oC hoC hCL hCc
    have hn3 : h₃.Ns C m := ⟨oC, es, ep, hoC3, hdC, hkC, hfC⟩
    refine ⟨m, hn3, fun h₄ hs4 => ?_⟩
    dsimp only at hs4
    have lt4 : KeepsLT h₃ h₄ := KeepsLT.sameBut hs4 (ns_notSeq hn3)
    refine ⟨h₄, tk₃, β ++ [D], H ++ (K₁ ++ [ds]), rfl, ⟨fun b o e a1 a2 _ => hs4.extBut b o (fun q => by rw [q, dC] at e; cases e) (kf3 b o (k b o e) a1 a2), fr', fun n hnn _ => List.getElem?_append_left hnn, by simp⟩, fun b o e => ?_, (R''.lt' lt3).lt' lt4, _, F3.other KK hs4 hCL hCc (F.deadH dC) lt4.tup, by simpa using q'⟩
    obtain ⟨o', e'⟩ := lv3 b o (k b o e)
    exact ⟨o', hs4.extBut b o' (fun q => by rw [q, dC] at e; cases e) e'⟩

end
end Mine

set_option autoImplicit false
set_option linter.unusedSimpArgs false
set_option linter.unusedVariables false
set_option linter.unusedSectionVars false
namespace Mine
open PySem PyProof.Rows PySem.Calls

section
variable {X : SX} {f : FC}

end
end Mine

set_option autoImplicit false
set_option linter.unusedSimpArgs false
set_option linter.unusedVariables false
namespace Mine
open PySem PyProof.Rows PySem.Calls

/-- the post of a call behind which the frame's own object may have turned its slots -/
inductive PostT (G : GV) (f : FC) (s : Shared) (α : List Addr) (H : Hp) (Q : V → Hp → Prop) (v : Value) (s' : Shared) : Prop
  | mk (h' : Heap) (tk : Nat) (β : List Addr) (K : Hp) (d : V) (e : s' = { s with heap := h', toks := tk }) (k : ∀ b o, s.heap.get? b = some o → b ≠ f.env.locals → h'.get? b = some o)
    (l : ∀ m, s.heap.Ns f.env.locals m → h'.Ns f.env.locals m) (fr : ∀ b ∈ β, s.heap.get? b = none) (R : HR G (α ++ β) h' (H ++ K)) (r : Rep G (α ++ β) h' v d) (q : Q d (H ++ K))

/-- a call that may raise within and catch -/
noncomputable def STry (X : SX) (f : FC) : Prop :=
  ∀ (k : Nat) (x : Str) (vs : List V) (H : Hp) (Q : V → Hp → Prop), f.c.g.fns[k]? = some x → X.Φ (k + 1000) vs H Q (fun _ _ => False) → ∀ (W : Nat → Prop) (s : Shared) (α : List Addr) (ρ : Loc) (vals : List Value) (E : Value → Shared → Prop),
    GF X.G f.c.g X.DT f.hb → FrS X.G f W s.heap α ρ → HR X.G α s.heap H → Reps X.G α s.heap vals vs → wpAny (model X.prog X.w) X.A (call (.ref (X.G.fa k)) vals) (PostT X.G f s α H Q) E s

section
variable {X : SX} {f : FC}
theorem PostT.trans {s : Shared} {α : List Addr} {H : Hp} {Q : V → Hp → Prop} {h₁ : Heap} {tk₁ : Nat} {β : List Addr} {K : Hp} {v : Value} {s' : Shared} (k : KeepsH s.heap h₁) (fr : ∀ b ∈ β, s.heap.get? b = none)
    (p : PostT X.G f { s with heap := h₁, toks := tk₁ } (α ++ β) (H ++ K) Q v s') : PostT X.G f s α H Q v s' := by
  obtain ⟨h', tk, β', K', d, rfl, k', l', fr', R', r', q'⟩ := p
  refine ⟨h', tk, β ++ β', K ++ K', d, rfl, fun b o e n => k' b o (k b o e) n, fun m e => l' m (e.keeps k), fun b hb => ?_, by simpa using R', by simpa using r', by simpa using q'⟩
  rcases List.mem_append.mp hb with hb | hb
  · exact fr b hb
  · cases e : s.heap.get? b with
    | none => rfl
    | some o => have := k b o e; rw [show h₁.get? b = none from fr' b hb] at this; cases this

theorem call_fnT {k : Nat} {x : Str} {ps : PEs} {e : Expr} {es : List Expr} {pos : Pos} (hT : STry X f) (hf : f.c.g.fns[k]? = some x) (hn : notStar e = true) (h : SEs X f.c ps (e :: es))
    (W : Nat → Prop) (s : Shared) (α : List Addr) (ρ : Loc) (H : Hp) (Q : V → Hp → Prop) (E : Value → Shared → Prop) (O : EnvOk f.c f.env) (T : GF X.G f.c.g X.DT f.hb) (R : HR X.G α s.heap H) (F : FrS X.G f W s.heap α ρ)
    (q : wpEs X.sub X.Φ ps ρ H fun vs H1 => X.Φ (k + 1000) vs H1 Q fun _ _ => False) :
    wpAny (model X.prog X.w) X.A (callWith pos (.ref (X.G.fa k)) [] (backTo pos (starEach (e :: es) f.env)) []) (PostT X.G f s α H Q) E s := by
  obtain ⟨_, d, o, pm, cd, doc, _, _, ho, hd, _⟩ := (T.at F).fn k x hf
  refine callWith_def hd (wpAny_mono (h f.env s α ρ H _ E pos O (T.at F) R F.fi q) (fun vs s₁ p => ?_) fun _ _ y => y) (starEach_cons hn)
  obtain ⟨h₁, tk₁, β, K, ds, rfl, k', f', R', r, q'⟩ := p
  refine ⟨k' _ _ ho, ?_⟩
  exact wpAny_mono (hT k x ds (H ++ K) Q hf q' W { s with heap := h₁, toks := tk₁ } (α ++ β) ρ vs E T (F.up k' f') R' r.1) (fun _ _ p => p.trans k' f') fun _ _ y => y

theorem Lives.turn {W : Nat → Prop} {s : Shared} {α : List Addr} {ρ : Loc} {h' : Heap} (F : FrS X.G f W s.heap α ρ) (k : ∀ b o, s.heap.get? b = some o → b ≠ f.env.locals → h'.get? b = some o) (l : ∀ m, s.heap.Ns f.env.locals m → h'.Ns f.env.locals m) : Lives s.heap h' := fun b o e => by
  by_cases hb : b = f.env.locals
  · subst hb
    obtain ⟨m, cm, hn, _⟩ := F.fr
    obtain ⟨o', _, _, e', _⟩ := l m hn
    exact ⟨_, e'⟩
  · exact ⟨o, k b o e hb⟩
theorem FrS.turn {W : Nat → Prop} {s : Shared} {α β : List Addr} {ρ : Loc} {h' : Heap} (K : FCOk f) (F : FrS X.G f W s.heap α ρ) (k : ∀ b o, s.heap.get? b = some o → b ≠ f.env.locals → h'.get? b = some o)
    (l : ∀ m, s.heap.Ns f.env.locals m → h'.Ns f.env.locals m) (fr : ∀ b ∈ β, s.heap.get? b = none) : FrS X.G f W h' (α ++ β) ρ := by
  obtain ⟨m, cm, hn, hc, hv⟩ := F.fr
  have kt : KeepsT s.heap h' := fun a items x => by
    obtain ⟨o, ho, hc', n, hd⟩ := x
    refine ⟨o, k a o ho fun ha => ?_, hc', n, hd⟩
    subst ha
    obtain ⟨o', es, ep, ho', hd', _⟩ := hn
    rw [ho] at ho'; cases ho'
    rw [hd] at hd'; cases hd'
  refine ⟨⟨m, cm, ?_, ?_, fun i x d e1 e2 => ?_⟩, fun b o e => ?_, fun n a ha hw => ?_⟩
  · exact l m hn
  · exact hc.extBut (fun c o n e => k c o e n) (Nat.le_refl _)
  · obtain ⟨v, hv, r⟩ := hv i x d e1 e2
    exact ⟨v, hv, r.mono ext_app kt⟩
  · refine k b o (F.kb b o e) fun hb => ?_
    subst hb
    rw [K.deadL] at e; cases e
  · by_cases hl : n < α.length
    · rw [List.getElem?_append_left hl] at ha; exact F.wb n a ha hw
    · rw [List.getElem?_append_right (by omega)] at ha
      have hm := fr a (List.mem_of_getElem? ha)
      cases e : f.hb.get? a with
      | none => rfl
      | some o => have := F.kb a o e; rw [hm] at this; cases this
theorem ss_asst {i k : Nat} {y x : Str} {ps : PEs} {e : Expr} {es : List Expr} {px p pos pos' : Pos} (K : FCOk f) (hy : f.c.isVar i y = true) (hT : STry X f) (hf : f.c.g.fns[k]? = some x) (hx : f.c.isGlob x = true) (hn : notStar e = true) (h : SEs X f.c ps (e :: es)) :
    SS X f (.asst i k ps) (.Assign [.Name y px] (.Call (.Name x p) (e :: es) [] pos) pos') := fun W s α ρ H N R Y E hW T F HR' hY q => by
  simp only [qS1, qS2, qS3, qS4, qS5, qS6, qS7, qS8, qS9, qS10, qS11, qS12, qS13, qS14, qS15, qS16, qS17, qS18] at q
  refine wpAny_Assign_Name (wpAny_mono (Call_ (load_glob K.env hx (T.at F).g ((T.at F).fn k x hf).1 (call_fnT hT hf hn h W s α ρ H _ E K.env T HR' F q))) (fun v s₁ p => ?_) fun _ _ x => x) (swaps_false rfl _ _ _)
  obtain ⟨h₁, tk₁, β, K₁, d, rfl, k, l, fr, R', r, q⟩ := p
  refine store_var (s := { s with heap := h₁, toks := tk₁ }) K (F.turn K k l fr) hy r fun h' tk F' kf lt lv => ?_
  exact ⟨h', tk, β, H ++ K₁, rfl, ⟨fun b o e h1 h2 _ => kf b o (k b o e h1) h1 h2, fr, fun n hn _ => List.getElem?_append_left hn, by simp⟩, (Lives.turn F k l).trans lv, R'.lt' lt, _, F', q⟩
theorem or3_spec {e v1 v2 l r : Expr} (h : or3 e = some (v1, v2, l, r)) : ∃ p p', e = .BoolOp .Or [v1, v2, .Compare l [.NotEq] [r] p] p' := by
  unfold or3 at h
  split at h
  · cases h; exact ⟨_, _, rfl⟩
  · cases h
theorem ss_itet {a b : PE} {k i : Nat} {ps : PEs} {s1 t1 : PS} {v1 v2 e : Expr} {es : List Expr} {x y : Str} {p pos py pc pb pos' : Pos} {bd oe : List Stmt} (hA : AOk X.A) (K : FCOk f) (hT : STry X f) (h1 : SC X f.c a v1) (h2 : SC X f.c b v2) (hf : f.c.g.fns[k]? = some x) (hx : f.c.isGlob x = true)
    (hn : notStar e = true) (h : SEs X f.c ps (e :: es)) (hy : f.c.isVar i y = true) (hm : behindInMarks .NotEq (.Name y py) = false) (h4 : SB X f t1 oe) :
    SS X f (.itet a b k ps i s1 t1) (.If (.BoolOp .Or [v1, v2, .Compare (.Call (.Name x p) (e :: es) [] pos) [.NotEq] [.Name y py] pc] pb) bd oe pos') := fun W s α ρ H N R Y E hW T F HR' hY q => by
  simp only [qS1, qS2, qS3, qS4, qS5, qS6, qS7, qS8, qS9, qS10, qS11, qS12, qS13, qS14, qS15, qS16, qS17, qS18] at q
  refine wpAny_If (wpAny_isTrue_BoolOp (wpAny_allTrue_Or_cons (wpAny_mono (h1 f.env s α ρ H _ E K.env (T.at F) HR' F.fi q) (fun t s₁ p => ?_) fun _ _ x => x)))
  obtain ⟨h₁, tk₁, β₁, K₁, t', rfl, k₁, f₁, R₁, rfl, ht, q₁⟩ := p
  subst ht
  simp only [Bool.false_eq_true, if_false]
  have F₁ := F.up k₁ f₁
  refine wpAny_allTrue_Or_cons (wpAny_mono (h2 f.env { s with heap := h₁, toks := tk₁ } (α ++ β₁) ρ (H ++ K₁) _ E K.env (T.at F₁) R₁ F₁.fi q₁) (fun t s₂ p => ?_) fun _ _ x => x)
  obtain ⟨h₂, tk₂, β₂, K₂, t', rfl, k₂, f₂, R₂, rfl, ht, q₂⟩ := p
  subst ht
  simp only [Bool.false_eq_true, if_false]
  have F₂ := F₁.up k₂ f₂
  have st₁ : StepS f W s α H h₁ β₁ (H ++ K₁) := .of k₁ f₁
  have st₂ : StepS f W { s with heap := h₁, toks := tk₁ } (α ++ β₁) (H ++ K₁) h₂ β₂ (H ++ K₁ ++ K₂) := .of k₂ f₂
  refine wpAny_allTrue_Or_cons (wpAny_isTrue_Compare1 (wpAny_mono (Call_ (load_glob K.env hx (T.at F₂).g ((T.at F₂).fn k x hf).1 (call_fnT hT hf hn h W { s with heap := h₂, toks := tk₂ } (α ++ β₁ ++ β₂) ρ (H ++ K₁ ++ K₂) _ E K.env T R₂ F₂ q₂))) (fun u s₃ p => ?_) fun _ _ x => x) hm)
  obtain ⟨h₃, tk₃, β₃, K₃, d₃, rfl, k₃, l₃, f₃, R₃, r₃, q₃⟩ := p
  have F₃ := F₂.turn K k₃ l₃ f₃
  have st₃ : StepS f W { s with heap := h₂, toks := tk₂ } (α ++ β₁ ++ β₂) (H ++ K₁ ++ K₂) h₃ β₃ (H ++ K₁ ++ K₂ ++ K₃) := ⟨fun b o e n _ _ => k₃ b o e n, f₃, fun n hn _ => List.getElem?_append_left hn, by simp⟩
  have lv₃ : Lives h₂ h₃ := Lives.turn (s := { s with heap := h₂, toks := tk₂ }) F₂ k₃ l₃
  refine wpAny_mono (se_var hy f.env { s with heap := h₃, toks := tk₃ } (α ++ β₁ ++ β₂ ++ β₃) ρ (H ++ K₁ ++ K₂ ++ K₃) (fun y Hx => cmpWp .ne d₃ y Hx fun r H5 => ifSome (truthV H5 r) fun t3 => t3 = false ∧ wpS X.sub X.Φ W t1 ρ H5 N R Y) E K.env (T.at F₃) R₃ F₃.fi (by simp only [qE1, qE2, qE3, qE4, qE5, qE6, qE7, qE8, qE9, qE10, qE11, qE12, qE13, qE14, qE15, qE16, qE17, qE18, qE19, qE20, qE21, qE22]; exact q₃)) (fun v s₄ p => ?_) fun _ _ x => x
  obtain ⟨h₄, tk₄, β₄, K₄, d₄, rfl, k₄, f₄, R₄, r₄, q₄⟩ := p
  refine wpAny_mono (cmp_sound (op := .ne) (s := { s with heap := h₄, toks := tk₄ }) hA R₄ (r₃.up k₄) r₄ q₄) (fun v s₅ p => ?_) fun _ _ x => x
  obtain ⟨h₅, tk₅, β₅, K₅, d₅, rfl, k₅, f₅, R₅, r₅, q₅⟩ := p
  obtain ⟨t, e5, ht, q₅⟩ := ifSome.get q₅
  subst ht
  refine truth_sound (s := { s with heap := h₅, toks := tk₅ }) R₅ r₅ e5 fun tk' => ?_
  simp only [Bool.false_eq_true, if_false]
  refine wpAny_allTrue_Or_nil ?_
  simp only [Bool.false_eq_true, if_false]
  have st₄ : StepS f W { s with heap := h₃, toks := tk₃ } (α ++ β₁ ++ β₂ ++ β₃) (H ++ K₁ ++ K₂ ++ K₃) h₄ β₄ (H ++ K₁ ++ K₂ ++ K₃ ++ K₄) := .of k₄ f₄
  have st₅ : StepS f W { s with heap := h₄, toks := tk₄ } (α ++ β₁ ++ β₂ ++ β₃ ++ β₄) (H ++ K₁ ++ K₂ ++ K₃ ++ K₄) h₅ β₅ (H ++ K₁ ++ K₂ ++ K₃ ++ K₄ ++ K₅) := .of k₅ f₅
  have F₅ := (F₃.up k₄ f₄).up k₅ f₅
  have hY5 := ((((hY.later (tk₁ := tk₁) st₁ (.of k₁)).later (tk₁ := tk₂) st₂ (.of k₂)).later (tk₁ := tk₃) st₃ lv₃).later (tk₁ := tk₄) st₄ (.of k₄)).later (tk₁ := tk') st₅ (.of k₅)
  refine wpAny_mono (h4 W { s with heap := h₅, toks := tk' } _ ρ _ N R Y E hW T F₅ R₅ hY5 q₅) (fun _ _ p => ?_) fun _ _ x => x
  exact ((((p.trans st₅ (.of k₅)).trans st₄ (.of k₄)).trans st₃ lv₃).trans st₂ (.of k₂)).trans st₁ (.of k₁)
end
end Mine

set_option autoImplicit false
set_option linter.unusedSimpArgs false
set_option linter.unusedVariables false
set_option linter.unusedSectionVars false
namespace Mine
open PySem PyProof.Rows PySem.Calls

theorem meth_spec {c : MC} {i : Nat} {m : Str} {e : Expr} {cp : Pos} (h : c.isMeth i m e cp = true) : ∃ x px a ap, e = .Attribute (.Name x px) a ap ∧ c.isVar i x = true ∧ a = m ∧ ap.endLine = cp.line := by
  cases e <;> first | exact (Bool.false_ne_true h).elim | skip
  rename_i y a ap
  replace h : (c.varNm i y && a == m && decide (ap.endLine = cp.line)) = true := h
  rw [Bool.and_eq_true, Bool.and_eq_true, decide_eq_true_eq, beq_iff_eq] at h
  obtain ⟨x, px, rfl, hx⟩ := varNm_spec h.1.1
  exact ⟨x, px, a, ap, rfl, hx, h.1.2, h.2⟩
/-- a name's assignment -/
theorem inv_assign1 {P : Expr → Bool} {ts : List Expr} (h : (match isOne ts with | some t => P t | none => false) = true) : ∃ t, ts = [t] ∧ P t = true := by
  cases h1 : isOne ts with
  | none => rw [h1] at h; exact (Bool.false_ne_true h).elim
  | some t => rw [h1] at h; exact ⟨t, one_spec h1, h⟩

section
variable {X : SX} {f : FC} (hA : AOk X.A) (hΦ : SCall X.prog X.w X.G f.c.g X.DT X.A X.Φ) (K : FCOk f) (hT : STry X f)
include hA hΦ K hT

mutual
theorem soundS : (ps : PS) → ∀ (st : Stmt), matchS f.c ps st = true → SS X f ps st
  | .skip, st, h => (Bool.false_ne_true h).elim
  | .seq _ _, st, h => (Bool.false_ne_true h).elim
  | .assign i e, st, h => by
    cases st <;> first | exact (Bool.false_ne_true h).elim | skip
    rename_i ts v pos
    replace h := inv_assign1 h
    obtain ⟨t, rfl, h⟩ := h
    replace h := Bool.and_eq_true_iff.mp h
    have h1 := Bool.and_eq_true_iff.mp h.1
    obtain ⟨x, px, rfl, hx⟩ := varNm_spec h1.1
    rcases Bool.or_eq_true_iff.mp h.2 with hc | hc
    · exact ss_assign K hx (soundE hA hΦ e f.c.scope f.c.names v h1.2).1 hc
    · cases e with
      | comp elt tg caps it cond =>
        obtain ⟨x', tx, px', i', ifs, sc', pos', cs, rfl, rfl, hK, hi, he, hf⟩ := inv_comp h1.2
        obtain ⟨hsi, hns⟩ := soundI hA hΦ it f.c.scope f.c.names _ hi
        exact ss_assign_comp K hx hK (soundE hA hΦ elt sc' _ _ he).1 (soundIfs hA hΦ cond sc' _ _ hf) hsi hns
      | _ => exact (Bool.false_ne_true hc).elim
  | .unpack _ _, st, h => (Bool.false_ne_true h).elim
  | .setidx i k e, st, h => by
    cases st <;> first | exact (Bool.false_ne_true h).elim | skip
    rename_i ts v pos
    replace h := inv_assign1 h
    obtain ⟨t, rfl, h⟩ := h
    cases t <;> first | exact (Bool.false_ne_true h).elim | skip
    rename_i y j _
    replace h : (f.c.varNm i y && matchE f.c k j && matchE f.c e v && notCompM v) = true := h
    rw [Bool.and_eq_true, Bool.and_eq_true, Bool.and_eq_true] at h
    obtain ⟨x, px, rfl, hx⟩ := varNm_spec h.1.1.1
    exact ss_setidx K hx (soundE hA hΦ k f.c.scope f.c.names _ h.1.1.2).1 (soundE hA hΦ e f.c.scope f.c.names _ h.1.2).1 h.2
  | .app i e, st, h => by
    cases st <;> first | exact (Bool.false_ne_true h).elim | skip
    rename_i x pos
    cases x <;> first | exact (Bool.false_ne_true h).elim | skip
    rename_i g as kw cp
    replace h := inv_assign1 h
    obtain ⟨v, rfl, h⟩ := h
    replace h : (kw.isEmpty && f.c.isMeth i (Str.ofString "append") g cp && matchE f.c e v && notStarM v) = true := h
    rw [Bool.and_eq_true, Bool.and_eq_true, Bool.and_eq_true, List.isEmpty_iff] at h
    obtain ⟨⟨⟨rfl, hm⟩, h2⟩, h3⟩ := h
    obtain ⟨x, px, a, ap, rfl, hx, ha, hl⟩ := meth_spec hm
    exact ss_app K hx ha hl (notStarM_eq v ▸ h3) (soundE hA hΦ e f.c.scope f.c.names _ h2).1
  | .pop _, st, h => (Bool.false_ne_true h).elim
  | .rev _, st, h => (Bool.false_ne_true h).elim
  | .ret e, st, h => by
    cases st <;> first | exact (Bool.false_ne_true h).elim | skip
    rename_i o pos
    cases o with
    | none => exact (Bool.false_ne_true h).elim
    | some v => exact ss_ret K (soundE hA hΦ e f.c.scope f.c.names _ h).1
  | .ite c a b, st, h => by
    cases st <;> first | exact (Bool.false_ne_true h).elim | skip
    replace h := Bool.and_eq_true_iff.mp h
    have h1 := Bool.and_eq_true_iff.mp h.1
    exact ss_ite K (soundE hA hΦ c f.c.scope f.c.names _ h1.1).2 (soundB a _ h1.2) (soundB b _ h.2)
  | .whl c b, st, h => by
    cases st <;> first | exact (Bool.false_ne_true h).elim | skip
    replace h := Bool.and_eq_true_iff.mp h
    have h1 := Bool.and_eq_true_iff.mp h.1
    have h0 := List.isEmpty_iff.mp h1.1
    subst h0
    exact ss_whl K (soundE hA hΦ c f.c.scope f.c.names _ h1.2).2 (soundB b _ h.2)
  | .forr i it b, st, h => by
    cases st <;> first | exact (Bool.false_ne_true h).elim | skip
    replace h := Bool.and_eq_true_iff.mp h
    have h1 := Bool.and_eq_true_iff.mp h.1
    have h2 := Bool.and_eq_true_iff.mp h1.1
    have h0 := List.isEmpty_iff.mp h2.1
    subst h0
    obtain ⟨x, px, rfl, hx⟩ := varNm_spec h2.2
    obtain ⟨hsi, hns⟩ := soundI hA hΦ it f.c.scope f.c.names _ h1.2
    exact ss_forr K hx hsi hns (soundB b _ h.2)
  | .raise k, st, h => fun W s α ρ H N R Y E hW T F HR' hY q => by
    simp only [qS1, qS2, qS3, qS4, qS5, qS6, qS7, qS8, qS9, qS10, qS11, qS12, qS13, qS14, qS15, qS16, qS17, qS18] at q
    exact wpAny_mono (hY k st s.heap s.toks [] H ρ h .refl (fun b o e => ⟨o, e⟩) (by simpa using HR') (by simpa using F) q) (fun _ _ f => f.elim) fun _ _ e => e
  | .opaq, st, h => (Bool.false_ne_true h).elim
  | .rett _ _, st, h => (Bool.false_ne_true h).elim
  | .asst i k es, st, h => by
    cases st <;> first | exact (Bool.false_ne_true h).elim | skip
    rename_i ts v pos
    replace h := inv_assign1 h
    obtain ⟨t, rfl, h⟩ := h
    replace h : (f.c.varNm i t && matchE f.c (.call k es) v) = true := h
    rw [Bool.and_eq_true] at h
    obtain ⟨y, px, rfl, hy⟩ := varNm_spec h.1
    obtain ⟨x, p, a, r, pos, rfl, h1, h2, h3⟩ := inv_call h.2
    obtain ⟨hs, hn⟩ := soundEs hA hΦ es f.c.scope f.c.names _ h3
    exact ss_asst K hy hT h1 h2 (Bool.and_eq_true_iff.mp hn).1 hs
  | .itet a b k es i p q, st, h => by
    cases st <;> first | exact (Bool.false_ne_true h).elim | skip
    rename_i v y z pos
    replace h : (match or3 v with | some w => matchE f.c a w.1 && matchE f.c b w.2.1 && matchE f.c (.call k es) w.2.2.1 && f.c.varNm i w.2.2.2 && !behindInMarks .NotEq w.2.2.2 && matchB f.c p y && matchB f.c q z | none => false) = true := h
    cases ho : or3 v with
    | none => rw [ho] at h; exact (Bool.false_ne_true h).elim
    | some w =>
      rw [ho] at h
      obtain ⟨v1, v2, l, r⟩ := w
      obtain ⟨pc, pb, rfl⟩ := or3_spec ho
      simp only [Bool.and_eq_true, Bool.not_eq_true'] at h
      obtain ⟨⟨⟨⟨⟨⟨h1, h2⟩, h3⟩, h4⟩, h5⟩, h6⟩, h7⟩ := h
      obtain ⟨x, px, e, r', pos', rfl, g1, g2, g3⟩ := inv_call h3
      obtain ⟨yy, py, rfl, hy⟩ := varNm_spec h4
      obtain ⟨hs, hn⟩ := soundEs hA hΦ es f.c.scope f.c.names _ g3
      exact ss_itet hA K hT (soundE hA hΦ a f.c.scope f.c.names _ h1).2 (soundE hA hΦ b f.c.scope f.c.names _ h2).2 g1 g2 (Bool.and_eq_true_iff.mp hn).1 hs hy h5 (soundB q _ h7)
  | .tryc _ _ _ _ _ _, st, h => (Bool.false_ne_true h).elim
theorem soundB : (ps : PS) → ∀ (sts : List Stmt), matchB f.c ps sts = true → SB X f ps sts
  | .skip, sts, h => by
    cases sts with
    | nil => exact sb_nil K
    | cons _ _ => exact (Bool.false_ne_true h).elim
  | .seq a b, sts, h => by
    cases sts with
    | nil => exact (Bool.false_ne_true h).elim
    | cons st sts =>
      replace h := Bool.and_eq_true_iff.mp h
      exact sb_cons K (soundS a _ h.1) (soundB b _ h.2)
  | .assign _ _, sts, h => (Bool.false_ne_true h).elim
  | .unpack _ _, sts, h => (Bool.false_ne_true h).elim
  | .setidx _ _ _, sts, h => (Bool.false_ne_true h).elim
  | .app _ _, sts, h => (Bool.false_ne_true h).elim
  | .pop _, sts, h => (Bool.false_ne_true h).elim
  | .rev _, sts, h => (Bool.false_ne_true h).elim
  | .ret _, sts, h => (Bool.false_ne_true h).elim
  | .ite _ _ _, sts, h => (Bool.false_ne_true h).elim
  | .whl _ _, sts, h => (Bool.false_ne_true h).elim
  | .forr _ _ _, sts, h => (Bool.false_ne_true h).elim
  | .raise _, sts, h => (Bool.false_ne_true h).elim
  | .opaq, sts, h => fun W s α ρ H N R Y E hW T F HR' hY q => (show False from q).elim
  | .rett _ _, sts, h => (Bool.false_ne_true h).elim
  | .asst _ _ _, sts, h => (Bool.false_ne_true h).elim
  | .itet _ _ _ _ _ _ _, sts, h => (Bool.false_ne_true h).elim
  | .tryc _ _ _ _ _ _, sts, h => (Bool.false_ne_true h).elim
end
end
end Mine

set_option autoImplicit false
set_option linter.unusedVariables false
namespace Mine
open PySem PyProof.Rows PySem.Calls

theorem cellsFrom_lookup : ∀ (names : List (Str × NameKind)) (n : Nat) (acc : List (Str × Addr)) (x : Str), (names.lookup x = some NameKind.cell ∨ ∃ a, acc.lookup x = some a) → ∃ a, (cellsFrom n names acc).lookup x = some a
  | [], n, acc, x, h => by
    rcases h with h | h
    · simp at h
    · exact h
  | (y, k) :: r, n, acc, x, h => by
    unfold cellsFrom
    by_cases hxy : x = y
    · subst hxy
      rcases h with h | ⟨a, h⟩
      · rw [List.lookup_cons_self] at h; cases h
        rw [if_pos (by rfl)]
        exact cellsFrom_lookup r _ _ x (.inr ⟨n, by rw [List.lookup_cons_self]⟩)
      · by_cases hk : (k == NameKind.cell) = true
        · rw [if_pos hk]; exact cellsFrom_lookup r _ _ x (.inr ⟨n, by rw [List.lookup_cons_self]⟩)
        · rw [if_neg hk]; exact cellsFrom_lookup r _ _ x (.inr ⟨a, h⟩)
    · have hne : (x == y) = false := by simpa using hxy
      have h' : r.lookup x = some NameKind.cell ∨ ∃ a, acc.lookup x = some a := by
        rcases h with h | h
        · rw [List.lookup_cons, hne] at h; exact .inl h
        · exact .inr h
      by_cases hk : (k == NameKind.cell) = true
      · rw [if_pos hk]
        refine cellsFrom_lookup r _ _ x ?_
        rcases h' with h' | ⟨a, h'⟩
        · exact .inl h'
        · exact .inr ⟨a, by rw [List.lookup_cons, hne]; exact h'⟩
      · rw [if_neg hk]; exact cellsFrom_lookup r _ _ x h'

theorem cellsFrom_keys : ∀ (names : List (Str × NameKind)) (n : Nat) (acc : List (Str × Addr)), (cellsFrom n names acc).map (·.1) = ((names.filter fun x => x.2 == NameKind.cell).map (·.1)).reverse ++ acc.map (·.1)
  | [], n, acc => by simp [cellsFrom]
  | (y, k) :: r, n, acc => by
    unfold cellsFrom
    by_cases hk : (k == NameKind.cell) = true
    · rw [if_pos hk, cellsFrom_keys r]; simp [hk]
    · rw [if_neg hk, cellsFrom_keys r]; simp [hk]

theorem lookup_of_nodup {β : Type} : ∀ (l : List (Str × β)) (x : Str) (v : β), (l.map (·.1)).Nodup → (x, v) ∈ l → l.lookup x = some v
  | [], _, _, _, h => by simp at h
  | (y, u) :: r, x, v, hn, h => by
    rw [List.map_cons, List.nodup_cons] at hn
    rcases List.mem_cons.mp h with h | h'
    · cases h; rw [List.lookup_cons_self]
    · have hne : (x == y) = false := by
        simp only [beq_eq_false_iff_ne]
        intro e; subst e
        exact hn.1 (List.mem_map.mpr ⟨_, h', rfl⟩)
      rw [List.lookup_cons, hne]; exact lookup_of_nodup r x v hn.2 h'

theorem bindL_keep {k : Str → Option NameKind} : ∀ (binds : List (Str × Value)) (m : Str → Option Value) (x : Str), x ∉ binds.map (·.1) → bindL k binds m x = m x
  | [], _, _, _ => rfl
  | (n, v) :: r, m, x, h => by
    simp only [List.map_cons, List.mem_cons, not_or] at h
    unfold bindL
    rw [bindL_keep r _ x h.2]
    split
    · exact if_neg h.1
    · rfl
theorem bindL_get {k : Str → Option NameKind} : ∀ (binds : List (Str × Value)) (m : Str → Option Value) (x : Str) (v : Value), (binds.map (·.1)).Nodup → (x, v) ∈ binds → k x = some .local → bindL k binds m x = some v
  | [], _, _, _, _, h, _ => by simp at h
  | (n, u) :: r, m, x, v, hn, h, hk => by
    rw [List.map_cons, List.nodup_cons] at hn
    unfold bindL
    rcases List.mem_cons.mp h with h | h
    · cases h
      rw [bindL_keep r _ _ hn.1, if_pos hk]; exact if_pos rfl
    · exact bindL_get r _ x v hn.2 h hk
theorem bindC_keep {k : Str → Option NameKind} : ∀ (binds : List (Str × Value)) (m : Str → Option Value) (x : Str), x ∉ binds.map (·.1) → bindC k binds m x = m x
  | [], _, _, _ => rfl
  | (n, v) :: r, m, x, h => by
    simp only [List.map_cons, List.mem_cons, not_or] at h
    unfold bindC
    rw [bindC_keep r _ x h.2]
    split
    · rfl
    · exact if_neg h.1
theorem bindC_get {k : Str → Option NameKind} : ∀ (binds : List (Str × Value)) (m : Str → Option Value) (x : Str) (v : Value), (binds.map (·.1)).Nodup → (x, v) ∈ binds → k x ≠ some .local → bindC k binds m x = some v
  | [], _, _, _, _, h, _ => by simp at h
  | (n, u) :: r, m, x, v, hn, h, hk => by
    rw [List.map_cons, List.nodup_cons] at hn
    unfold bindC
    rcases List.mem_cons.mp h with h | h
    · cases h
      rw [bindC_keep r _ _ hn.1, if_neg hk]; exact if_pos rfl
    · exact bindC_get r _ x v hn.2 h hk

theorem get_ge_none {h : Heap} {a : Addr} (ha : h.objs.size ≤ a) : h.get? a = none := by
  cases e : h.get? a with
  | none => rfl
  | some o => exact absurd (Heap.lt_size e) (Nat.not_lt.mpr ha)

/-- a def of the text and its mini form -/
structure DefOk (gc : GC) (d : DefT) (f : Fn) (vs : List Str) : Prop where
  nodup : vs.Nodup
  kind : d.scope.kind = .function
  coro : d.scope.isCoroutine = false
  gen : d.scope.isGenerator = false
  nofree : ∀ x, d.scope.names.lookup x ≠ some NameKind.free
  uniq : ((d.scope.names.filter fun x => x.2 == NameKind.cell).map (·.1)).Nodup
  par : ∀ x ∈ vs.take f.np, d.scope.names.lookup x = some .local ∨ d.scope.names.lookup x = some .cell
  bind : ∀ (pm cd doc : Value) (vals : List Value), vals.length = f.np → bindArgs (docDef d.name d.params d.body d.scope pm cd doc) ⟨vals, []⟩ = pure ((vs.take f.np).zip vals)
  body : matchB ⟨gc, d.scope, vs⟩ f.body d.body = true

theorem envOk_of {gc : GC} {d : DefT} {f : Fn} {vs : List Str} (D : DefOk gc d f vs) (L a : Addr) (cd : Value) : EnvOk ⟨gc, d.scope, vs⟩ (envOfC d.name d.scope L a cd) where
  kind := D.kind
  globals := rfl
  builtins := rfl
  loc := fun x e => e
  glob := fun x e => e
  cel := fun x e => e
  fre := fun x e => absurd e (D.nofree x)
  cells := fun x e => by
    rcases e with e | e
    · exact cellsFrom_lookup _ _ _ x (.inl e)
    · exact absurd e (D.nofree x)

theorem zip_get {β : Type} : ∀ {xs : List Str} {ys : List β} {i : Nat} {x : Str} {y : β}, xs[i]? = some x → ys[i]? = some y → (x, y) ∈ xs.zip ys
  | [], _, _, _, _, h, _ => by simp at h
  | _ :: _, [], _, _, _, _, h => by simp at h
  | _ :: _, _ :: _, 0, _, _, h1, h2 => by simp at h1 h2; subst h1 h2; simp
  | _ :: _, _ :: _, i + 1, _, _, h1, h2 => by
    simp at h1 h2
    simp only [List.zip_cons_cons, List.mem_cons]
    exact .inr (zip_get h1 h2)

theorem lget_start {np nv : Nat} {vs : List V} {i : Nat} {d : V} (h : lget (startLoc np nv vs) i = some d) : vs[i]? = some d := by
  have key : ∀ (l : List V) (n i : Nat), lget (l.map some ++ List.replicate n none) i = some d → l[i]? = some d := fun l => by
    induction l with
    | nil =>
      intro n
      induction n with
      | zero => intro i h; simp [lget] at h
      | succ n ih =>
        intro i h
        cases i with
        | zero => simp [List.replicate_succ, lget] at h
        | succ i => exact absurd (ih i (by simpa [List.replicate_succ, lget] using h)) (by simp)
    | cons x l ih =>
      intro n i h
      cases i with
      | zero => simpa [lget] using h
      | succ i => simpa using ih n i (by simpa [lget] using h)
  exact key vs _ i h

/-- the room that n calls need -/
structure Room (A : Around) (n : Nat) : Prop where
  handled : A.handled = none
  depth : A.depth + n < recursionLimit
  units : A.units + 3 * n + 100 < cLine

theorem Room.ok {A : Around} {n : Nat} (r : Room A n) : AOk A := ⟨r.handled, by have := r.units; omega⟩
theorem Room.down {A : Around} {n : Nat} {env : Env} (r : Room A (n + 1)) : Room (A.deeper env) n :=
  ⟨r.handled, by have := r.depth; show A.depth + 1 + n < _; omega, by have := r.units; show A.units + 3 + 3 * n + 100 < _; omega⟩

section
variable {prog : Program} {w : World} {G : GV} {gc : GC} {DT : List DefT} {P : List Fn} {VT : List (List Str)} {sub : Nat → Nat → Bool}

theorem take_eq_of_same {H H' : Hp} (hs : ∀ n, n < H.length → H'[n]? = H[n]?) (hl : H.length ≤ H'.length) : H' = H ++ H'.drop H.length := by
  conv => lhs; rw [← List.take_append_drop H.length H']
  congr 1
  apply List.ext_getElem?
  intro n
  by_cases hn : n < H.length
  · rw [List.getElem?_take, if_pos hn]; exact hs n hn
  · rw [List.getElem?_take, if_neg hn, List.getElem?_eq_none (by omega)]

noncomputable def SCallC (prog : Program) (w : World) (G : GV) (gc : GC) (DT : List DefT) (A : Around) (Φ : Call) : Prop :=
  ∀ (f : Nat) (x : Str) (vs : List V) (H : Hp) (Q : V → Hp → Prop), gc.fns[f]? = some x → Φ f vs H Q (fun _ _ => False) → ∀ (s : Shared) (α : List Addr) (vals : List Value) (E : Value → Shared → Prop),
    GF G gc DT s.heap → HR G α s.heap H → Reps G α s.heap vals vs → codeAny (model prog w) A (.call (.ref (G.fa f)) ⟨vals, []⟩)
      (fun r s' => match r with | .ok (.ret v) => Post G (Rep G) s α H Q v s' | .ok _ => False | .error e => E e s') s
theorem SCallC.wp {A : Around} {Φ : Call} (h : SCallC prog w G gc DT A Φ) : SCall prog w G gc DT A Φ := fun f x vs H Q hx hq s α vals E T R r => wpAny_call (h f x vs H Q hx hq s α vals E T R r)

/-- one call of an own def -/
theorem call_core {n : Nat} {A : Around} {Φ : Call} {f : Nat} {s : Shared} (hA : Room A (n + 1)) (hdefs : ∀ (k : Nat) (d : DefT) (f : Fn), DT[k]? = some d → P[k]? = some f → ∃ vs, DefOk gc d f vs) (hΦ : ∀ env, SCall prog w G gc DT (A.deeper env) Φ)
    (hT : ∀ (d : DefT) (vn : List Str) (cd : Value), DT[f]? = some d →
      STry ⟨prog, w, G, DT, A.deeper (envOfC d.name d.scope s.heap.objs.size (G.fa f) cd), sub, Φ⟩ ⟨⟨gc, d.scope, vn⟩, envOfC d.name d.scope s.heap.objs.size (G.fa f) cd, s.heap⟩)
    {x : Str} {vs : List V} {H : Hp} {Q : V → Hp → Prop} {Y : Nat → Hp → Prop} {fd : Fn} (hx : gc.fns[f]? = some x) (hf : P[f]? = some fd) (hlen : vs.length = fd.np)
    (hw : wpS sub Φ (fun m => H.length ≤ m) fd.body (startLoc fd.np fd.nv vs) H (fun _ H' => Q .none H') Q Y) (α : List Addr) (vals : List Value) (E : Value → Shared → Prop)
    (hR : ∀ (d : DefT) (vn : List Str) (cd : Value) (h₁ : Heap) (tk : Nat), DT[f]? = some d → DefOk gc d fd vn → KeepsH s.heap h₁ → RaiseOk ⟨prog, w, G, DT, A.deeper (envOfC d.name d.scope s.heap.objs.size (G.fa f) cd), sub, Φ⟩ ⟨⟨gc, d.scope, vn⟩, envOfC d.name d.scope s.heap.objs.size (G.fa f) cd, s.heap⟩ (fun m => H.length ≤ m)
      { s with heap := h₁, toks := tk } α H Y (fun e s' => wpAny (model prog w) (A.deeper (envOfC d.name d.scope s.heap.objs.size (G.fa f) cd)) (leaving (envOfC d.name d.scope s.heap.objs.size (G.fa f) cd) e) (fun _ s'' => E e s'') (fun e' s'' => E e' s'') s'))
    (T : GF G gc DT s.heap) (R : HR G α s.heap H) (r : Reps G α s.heap vals vs) : codeAny (model prog w) A (.call (.ref (G.fa f)) ⟨vals, []⟩)
      (fun r s' => match r with | .ok (.ret v) => Post G (Rep G) s α H Q v s' | .ok _ => False | .error e => E e s') s := by
  obtain ⟨hm, d, o, pm, cd, doc, hd, hname, ho, hdata, hcd⟩ := T.fn f x hx
  obtain ⟨vn, D⟩ := hdefs f d fd hd hf
  have hvl : vals.length = fd.np := r.len.trans hlen
  have hkindOf : ∀ (x : Str), x ∈ vn.take fd.np → d.scope.names.lookup x = some .local ∨ (d.scope.names.lookup x = some .cell ∧ ((cellsFrom (s.heap.objs.size + 1) d.scope.names []).lookup x).isSome = true) := fun x hx => by
    rcases D.par x hx with e | e
    · exact .inl e
    · obtain ⟨a, ha⟩ := cellsFrom_lookup d.scope.names (s.heap.objs.size + 1) [] x (.inl e)
      exact .inr ⟨e, by rw [ha]; rfl⟩
  have hmemz : ∀ y ∈ (vn.take fd.np).zip vals, y.1 ∈ vn.take fd.np := fun y hy => (List.of_mem_zip (show (y.1, y.2) ∈ _ from hy)).1
  refine (call_cells (by have := hA.depth; omega) ho hdata T.nolimit hcd (D.bind pm cd doc vals hvl) (fun y hy => hkindOf y.1 (hmemz y hy)) (fun h₁ tk Fr' Cl' => ?_) D.coro D.gen D.kind)
  let env := envOfC d.name d.scope s.heap.objs.size (G.fa f) cd
  let fc : FC := ⟨⟨gc, d.scope, vn⟩, env, s.heap⟩
  let X : SX := ⟨prog, w, G, DT, A.deeper env, sub, Φ⟩
  have K : FCOk fc := by
    refine ⟨envOk_of D _ _ _, D.nodup, D.nofree, size_none _, fun m a hm => get_ge_none (Nat.le_of_lt (Cl'.above m a hm)), Cl'.above, Cl'.apart, fun m a hm => ?_⟩
    refine lookup_of_nodup _ _ _ ?_ hm
    show ((cellsFrom _ _ _).map (·.1)).Nodup
    rw [cellsFrom_keys]
    rw [List.map_nil, List.append_nil]
    exact (List.reverse_perm _).nodup_iff.mpr D.uniq
  have hnd : (((vn.take fd.np).zip vals).map (·.1)).Nodup := by
    refine List.Nodup.sublist ?_ (List.Nodup.sublist (List.take_sublist fd.np vn) D.nodup)
    have : ∀ (a : List Str) (b : List Value), ((a.zip b).map (·.1)).Sublist a := fun a => by
      induction a with
      | nil => intro b; simp
      | cons x a ih => intro b; cases b with
        | nil => simp
        | cons y b => simpa using ih b
    exact this _ _
  have hkeep : KeepsH s.heap h₁ := Fr'.keep
  have F : FrS G fc (fun m => H.length ≤ m) h₁ α (startLoc fd.np fd.nv vs) := by
    refine ⟨⟨_, _, Fr'.ns, Cl', fun i y dv hi hd' => ?_⟩, hkeep, fun m a ha hm => ?_⟩
    · have hvi := lget_start hd'
      obtain ⟨v, hv, rv⟩ := r.get hvi
      have hil : i < fd.np := by rw [← hlen]; exact (List.getElem?_eq_some_iff.mp hvi).1
      have hyt : (vn.take fd.np)[i]? = some y := by rw [List.getElem?_take, if_pos hil]; exact hi
      have hz : (y, v) ∈ (vn.take fd.np).zip vals := zip_get hyt hv
      refine ⟨v, ?_, rv.mono (fun _ _ e => e) (.of hkeep)⟩
      rcases hkindOf y (hmemz _ hz) with e | ⟨e, _⟩
      · exact .inl ⟨e, bindL_get _ _ _ _ hnd hz e⟩
      · exact .inr ⟨e, bindC_get _ _ _ _ hnd hz (by rw [show (envOfC d.name d.scope s.heap.objs.size (G.fa f) cd).kindOf y = some .cell from e]; simp), cellsFrom_lookup _ _ _ y (.inl e)⟩
    · have := (List.getElem?_eq_some_iff.mp ha).1
      rw [R.len] at this; omega
  have hs := soundB (X := X) (f := fc) hA.down.ok (hΦ env) K (hT d vn cd hd) fd.body d.body D.body (fun m => H.length ≤ m) { s with heap := h₁, toks := tk } α _ H _ _ _ _
    (fun m hm => Nat.le_trans R.pos hm) T F (R.keeps hkeep) (hR d vn cd h₁ tk hd D hkeep) hw
  refine wpAny_mono hs (fun fl s' p => ?_) fun _ _ e => e
  obtain ⟨h', tk', β, H', rfl, st, lv, R', pf⟩ := p
  have hH' : H' = H ++ H'.drop H.length := take_eq_of_same (fun m hm => st.same m hm (Nat.not_le.mpr hm)) st.le
  have fresh : ∀ b ∈ β, s.heap.get? b = none := fun b hb => by
    cases e : s.heap.get? b with
    | none => rfl
    | some o' => have := st.fresh b hb; rw [show ({ s with heap := h₁, toks := tk } : Shared).heap.get? b = some o' from hkeep b o' e] at this; cases this
  cases fl with
  | next =>
    obtain ⟨ρ', F', hN⟩ := pf
    exact ⟨h', tk', β, _, .none, rfl, F'.kb, fresh, hH' ▸ R', Rep.none, hH' ▸ hN⟩
  | ret v =>
    obtain ⟨kb, dv, rv, hR⟩ := pf
    exact ⟨h', tk', β, _, dv, rfl, kb, fresh, hH' ▸ R', rv, hH' ▸ hR⟩
  | _ => exact pf.elim

theorem call_step {n : Nat} {A : Around} {Φ : Call} {f : Nat} {s : Shared} (hA : Room A (n + 1)) (hdefs : ∀ (k : Nat) (d : DefT) (f : Fn), DT[k]? = some d → P[k]? = some f → ∃ vs, DefOk gc d f vs) (hΦ : ∀ env, SCall prog w G gc DT (A.deeper env) Φ)
    (hT : ∀ (d : DefT) (vn : List Str) (cd : Value), DT[f]? = some d →
      STry ⟨prog, w, G, DT, A.deeper (envOfC d.name d.scope s.heap.objs.size (G.fa f) cd), sub, Φ⟩ ⟨⟨gc, d.scope, vn⟩, envOfC d.name d.scope s.heap.objs.size (G.fa f) cd, s.heap⟩)
    {x : Str} {vs : List V} {H : Hp} {Q : V → Hp → Prop} {fd : Fn} (hx : gc.fns[f]? = some x) (hf : P[f]? = some fd) (hlen : vs.length = fd.np)
    (hw : wpS sub Φ (fun m => H.length ≤ m) fd.body (startLoc fd.np fd.nv vs) H (fun _ H' => Q .none H') Q (fun _ _ => False)) (α : List Addr) (vals : List Value) (E : Value → Shared → Prop)
    (T : GF G gc DT s.heap) (R : HR G α s.heap H) (r : Reps G α s.heap vals vs) : codeAny (model prog w) A (.call (.ref (G.fa f)) ⟨vals, []⟩)
      (fun r s' => match r with | .ok (.ret v) => Post G (Rep G) s α H Q v s' | .ok _ => False | .error e => E e s') s :=
  call_core hA hdefs hΦ hT hx hf hlen hw α vals E (fun d vn cd h₁ tk _ _ _ k st h' tk' β H' ρ' _ _ _ _ _ hf => hf.elim) T R r

theorem scall_callN (hlenP : P.length = gc.fns.length) (hP : P.length ≤ 1000) (hdefs : ∀ (k : Nat) (d : DefT) (f : Fn), DT[k]? = some d → P[k]? = some f → ∃ vs, DefOk gc d f vs) :
    ∀ (n : Nat) (A : Around), Room A n → SCallC prog w G gc DT A (callN sub P n)
  | 0, A, _ => fun f x vs H Q _ h => by simp [callN] at h
  | n + 1, A, hA => fun f x vs H Q hx h s α vals E T R r => by
    simp only [callN] at h
    obtain ⟨fd, hf, hlen, hw⟩ := h
    refine call_step hA hdefs (fun env => (scall_callN hlenP hP hdefs n _ hA.down).wp) (fun d vn cd _ k x vs H Q _ hk => ?_) hx hf hlen hw α vals E T R r
    · replace hk : callN sub P n (k + 1000) vs H Q (fun _ _ => False) := hk
      cases n with
      | zero => simp [callN] at hk
      | succ n =>
        simp only [callN] at hk
        obtain ⟨d', hd', _⟩ := hk
        have := (List.getElem?_eq_some_iff.mp hd').1
        omega
end
end Mine

set_option autoImplicit false
set_option linter.unusedVariables false
namespace Mine
open PySem PyProof.Rows PySem.Calls

theorem lookup_zip : ∀ (ns : List Str) (vals : List Value), ns.Nodup → vals.length = ns.length → ∀ x ∈ ns, (((ns.zip vals).lookup x).isNone) = false
  | [], _, _, _, x, h => by simp at h
  | n :: ns, [], _, h, _, _ => by simp at h
  | n :: ns, v :: vals, hn, hl, x, hx => by
    rw [List.zip_cons_cons]
    by_cases e : x = n
    · subst e; rw [List.lookup_cons_self]; rfl
    · have : (x == n) = false := by simpa using e
      rw [List.lookup_cons, this]
      rw [List.nodup_cons] at hn
      exact lookup_zip ns vals hn.2 (by simpa using hl) x (by simpa [e] using hx)
theorem filterMap_zip : ∀ (ns : List Str) (vals : List Value), ns.Nodup → vals.length = ns.length → (ns.filterMap fun n => ((ns.zip vals).lookup n).map (n, ·)) = ns.zip vals := by
  have key : ∀ (ms : List Str) (us : List Value) (f : Str → Option Value), us.length = ms.length → (∀ n v, (n, v) ∈ ms.zip us → f n = some v) → (ms.filterMap fun n => (f n).map (n, ·)) = ms.zip us := fun ms => by
    induction ms with
    | nil => intro us f _ _; simp
    | cons n ms ih =>
      intro us f hl h
      cases us with
      | nil => simp at hl
      | cons u us =>
        rw [List.filterMap_cons, h n u (by simp), List.zip_cons_cons]
        show (n, u) :: _ = _
        rw [ih us f (by simpa using hl) fun a b hab => h a b (by simp [hab])]
  intro ns vals hn hl
  refine key ns vals _ hl fun n v h => ?_
  refine lookup_of_nodup _ _ _ ?_ h
  have : (ns.zip vals).map (·.1) = ns := List.map_fst_zip (by omega)
  rw [this]; exact hn

theorem bind_plain {name : Str} {params : Arguments} {body : List Stmt} {scope : Scope} {pm cd doc : Value} {vals : List Value} {ns : List Str}
    (h1 : params.posonlyargs = []) (h2 : params.vararg = none) (h3 : params.kwonlyargs = []) (h4 : params.kwarg = none) (hns : params.args.map (·.arg) = ns) (hn : ns.Nodup) (hl : vals.length = ns.length) :
    bindArgs (docDef name params body scope pm cd doc) ⟨vals, []⟩ = pure (ns.zip vals) := by
  obtain ⟨po, ar, va, ko, kd, kw, df⟩ := params
  simp only at h1 h2 h3 h4 hns
  subst h1 h2 h3 h4
  subst hns
  unfold bindArgs
  simp only [docDef, List.map_nil, List.nil_append, List.append_nil]
  generalize List.map (fun x : Arg => x.arg) ar = ns at hn hl ⊢
  have hf : (List.filter (fun n => (List.lookup n (ns.zip vals)).isNone) ns) = [] := by
    rw [List.filter_eq_nil_iff]
    intro x hx
    rw [lookup_zip _ _ hn hl x hx]; simp
  have hg := filterMap_zip _ _ hn hl
  have hns : notAStandIn Value.none = pure () := rfl
  simp [seqItems?, hl, hns]
  have hc : ¬ ((!(List.filter (fun n => (List.lookup n (ns.zip vals)).isNone) (List.take (ns.length - (List.drop ((#[] : Array Value).size - ns.length) ([] : List Value)).length) ns)).isEmpty) = true) := by
    simp only [List.drop_nil, List.length_nil, Nat.sub_zero, List.take_length, hf]; decide
  rw [if_neg hc, hg]
end Mine

set_option autoImplicit false
set_option linter.unusedVariables false
namespace Mine
open PySem PyProof.Rows PySem.Calls PySem.W

noncomputable def toDef (r : DefRec) : DefT := ⟨r.name, r.params, r.body, r.scope⟩

noncomputable def defChk (gc : GC) (d : DefT) (f : Fn) (vs : List Str) : Bool :=
  decide vs.Nodup && decide (d.scope.kind = .function) && (d.scope.isCoroutine == false) && (d.scope.isGenerator == false) && d.scope.names.all (fun x => decide (x.2 ≠ NameKind.free)) &&
  decide ((d.scope.names.filter fun x => x.2 == NameKind.cell).map (·.1)).Nodup &&
  (vs.take f.np).all (fun x => decide (d.scope.names.lookup x = some NameKind.local) || decide (d.scope.names.lookup x = some NameKind.cell)) &&
  d.params.posonlyargs.isEmpty && d.params.vararg.isNone && d.params.kwonlyargs.isEmpty && d.params.kwarg.isNone && decide (d.params.args.map (·.arg) = vs.take f.np) && decide (f.np ≤ vs.length) && matchB ⟨gc, d.scope, vs⟩ f.body d.body

theorem defOk_of {gc : GC} {d : DefT} {f : Fn} {vs : List Str} (h : defChk gc d f vs = true) : DefOk gc d f vs := by
  unfold defChk at h
  simp only [Bool.and_eq_true, decide_eq_true_eq, beq_iff_eq, List.isEmpty_iff, Option.isNone_iff_eq_none] at h
  obtain ⟨⟨⟨⟨⟨⟨⟨⟨⟨⟨⟨⟨⟨h1, h2⟩, h3⟩, h4⟩, h5⟩, h6⟩, h7⟩, h8⟩, h9⟩, h10⟩, h11⟩, h12⟩, h13⟩, h14⟩ := h
  refine ⟨h1, h2, h3, h4, fun x e => ?_, h6, fun x hx => ?_, fun pm cd doc vals hv => ?_, h14⟩
  · have := List.all_eq_true.mp h5 (x, NameKind.free) (PySem.mem_of_lookup e)
    simp at this
  · have := List.all_eq_true.mp h7 x hx
    simpa using this
  · exact bind_plain h8 h9 h10 h11 h12 (List.Nodup.sublist (List.take_sublist _ _) h1) (by rw [hv, List.length_take]; omega)

noncomputable def chkAll (gc : GC) : List DefT → List Fn → List (List Str) → Bool
  | [], [], [] => true
  | d :: ds, f :: fs, v :: vs => defChk gc d f v && chkAll gc ds fs vs
  | _, _, _ => false

theorem defs_of {gc : GC} : ∀ {DT : List DefT} {P : List Fn} {VT : List (List Str)}, chkAll gc DT P VT = true → P.length = DT.length ∧ ∀ (k : Nat) (d : DefT) (f : Fn), DT[k]? = some d → P[k]? = some f → ∃ vs, DefOk gc d f vs
  | [], [], [], _ => ⟨rfl, fun k d f h => by simp at h⟩
  | d :: ds, f :: fs, v :: vs, h => by
    simp only [chkAll, Bool.and_eq_true] at h
    obtain ⟨hl, hr⟩ := defs_of h.2
    refine ⟨by simp [hl], fun k d' f' h1 h2 => ?_⟩
    cases k with
    | zero => simp at h1 h2; subst h1 h2; exact ⟨v, defOk_of h.1⟩
    | succ k => simp at h1 h2; exact hr k d' f' h1 h2
  | [], [], _ :: _, h => by simp [chkAll] at h
  | [], _ :: _, _, h => by simp [chkAll] at h
  | _ :: _, [], _, h => by simp [chkAll] at h
  | _ :: _, _ :: _, [], h => by simp [chkAll] at h

theorem reps_ints {G : GV} {α : List Addr} {h : Heap} : ∀ {vs : List Value} {ns : List Int}, IntsAre vs ns → Reps G α h vs (ns.map .int)
  | _, _, .nil => .nil
  | _, _, .cons n t r => .cons (.int n t) (reps_ints r)

noncomputable def fnAddr (mg : Str → Option Value) (fns : List Str) (k : Nat) : Addr := match fns[k]? with | some x => (match mg x with | some (.ref a) => a | _ => 0) | none => 0

section
variable {prog : Program} {w : World} {view : Program} {loose : List Str} {mean : ExcName → Option Value} {mg mb : Str → Option Value}

theorem gf_plain {h : Heap} {gc : GC} (T : Top view loose mean mg mb h) (hfns : gc.fns = (recsOf view).map (·.name))  (hglobs : gc.globs = [])
    (hblt : (bltNames.all fun x => !startupNames.contains x && !loose.contains x && !((recsOf view).map (·.name)).contains x && !((litsOf view).map (·.1)).contains x && !((clssOf view loose).map (·.name)).contains x && decide (x ≠ "__name__")) = true) :
    GF ⟨mg, mb, fnAddr mg gc.fns, fun _ => .none⟩ gc ((recsOf view).map toDef) h where
  g := T.g
  b := T.b
  nolimit := T.nolimit
  fn := fun k x e => by
    have e0 := e
    rw [hfns, List.getElem?_map] at e
    cases hr : (recsOf view)[k]? with
    | none => rw [hr] at e; simp at e
    | some r =>
      rw [hr] at e; simp at e; subst e
      obtain ⟨a, o, pm, cd, doc, h1, h2, h3, h4⟩ := T.fn r (List.mem_of_getElem? hr)
      have hfa : fnAddr mg gc.fns k = a := by unfold fnAddr; rw [e0]; simp [h1]
      refine ⟨by show mg r.name = some (.ref (fnAddr mg gc.fns k)); rw [hfa]; exact h1, toDef r, o, pm, cd, doc, by rw [List.getElem?_map, hr]; rfl, rfl, ?_, h3, h4⟩
      show h.get? (fnAddr mg gc.fns k) = some o
      rw [hfa]; exact h2
  blt := fun x hx => by
    have := List.all_eq_true.mp hblt x hx
    simp only [Bool.and_eq_true, Bool.not_eq_true', decide_eq_true_eq] at this
    obtain ⟨⟨⟨⟨⟨h1, h2⟩, h3⟩, h4⟩, h5⟩, h6⟩ := this
    have nm : ∀ {l : List Str}, l.contains x = false → x ∉ l := fun {l} h hm => by
      rw [List.contains_iff_mem.mpr hm] at h; cases h
    exact ⟨T.free x (nm h1) (nm h2) (nm h3) (nm h4) (nm h5), T.builtins x h6⟩
  glob := fun x a b e => by rw [hglobs] at e; simp at e

theorem callerRoom {n : Nat} (hn : n ≤ 600) : Room callerA n := ⟨rfl, by show 1 + 300 + n < 1000; omega, by show 4 + 3 * n + 100 < 9900; omega⟩

end
end Mine

set_option autoImplicit false
set_option linter.unusedVariables false
namespace Mine
open PySem

/-- below 2 ^ k either way -/
noncomputable def Sm (k : Nat) (x : Int) : Prop := x.natAbs < 2 ^ k
theorem Sm.mono {k l : Nat} {x : Int} (h : Sm k x) (hl : k ≤ l) : Sm l x := Nat.lt_of_lt_of_le h (Nat.pow_le_pow_right (by decide) hl)
theorem Sm.mul {k l : Nat} {x y : Int} (h1 : Sm k x) (h2 : Sm l y) : Sm (k + l) (x * y) := by
  unfold Sm at *
  rw [Int.natAbs_mul, Nat.pow_add]
  exact Nat.mul_lt_mul'' h1 h2
theorem Sm.add {k : Nat} {x y : Int} (h1 : Sm k x) (h2 : Sm k y) : Sm (k + 1) (x + y) := by
  unfold Sm at *
  rw [Nat.pow_succ]; omega
theorem Sm.sub {k : Nat} {x y : Int} (h1 : Sm k x) (h2 : Sm k y) : Sm (k + 1) (x - y) := by
  unfold Sm at *
  rw [Nat.pow_succ]; omega
theorem Sm.neg {k : Nat} {x : Int} (h1 : Sm k x) : Sm k (-x) := by
  unfold Sm at *; omega
theorem Sm.bits {k : Nat} {x : Int} (h : Sm k x) : Builtin.Int.intBits x ≤ k := by
  unfold Builtin.Int.intBits
  split
  · exact Nat.zero_le _
  · rename_i hx
    have : x.natAbs ≠ 0 := by simpa using hx
    exact (Nat.log2_lt this).mpr h
theorem IntMulOk.left {a b : Int} (h : Sm 64 a) : IntMulOk a b := IntMulOk.of_left h.bits
theorem IntMulOk.right {a b : Int} (h : Sm 64 b) : IntMulOk a b := IntMulOk.of_right h.bits
theorem IntMulOk.sm {k l : Nat} {a b : Int} (h1 : Sm k a) (h2 : Sm l b) (hk : k ≤ 1048576) (hl : l ≤ 1048576) : IntMulOk a b :=
  IntMulOk.of_bits (Nat.le_trans h1.bits (by simpa using hk)) (Nat.le_trans h2.bits (by simpa using hl))

theorem fmod_natAbs_lt {a b : Int} (hb : b ≠ 0) : (a.fmod b).natAbs < b.natAbs := by
  rcases Int.lt_or_gt_of_ne hb with h | h
  · have h1 : a.fmod b = -((-a).fmod (-b)) := by rw [Int.neg_fmod_neg]; omega
    have h2 := Int.fmod_nonneg_of_pos (-a) (b := -b) (by omega)
    have h3 := Int.fmod_lt_of_pos (-a) (b := -b) (by omega)
    omega
  · have h2 := Int.fmod_nonneg_of_pos a h
    have h3 := Int.fmod_lt_of_pos a h
    omega
theorem gcd_fmod {a b : Int} : b.gcd (a.fmod b) = a.gcd b := by
  rw [Int.fmod_def, Int.gcd_comm, Int.mul_comm, Int.gcd_sub_mul_right_left]

theorem getApp {β : Type} (H : List β) (x : β) (K : List β) : (H ++ x :: K)[H.length]? = some x := by simp
theorem getApp1 {β : Type} (H : List β) (x y : β) (K : List β) : (H ++ x :: y :: K)[H.length + 1]? = some y := by
  rw [List.getElem?_append_right (by omega)]; simp
theorem setApp {β : Type} (H : List β) (x y : β) (K : List β) : (H ++ x :: K).set H.length y = H ++ y :: K := by simp
theorem getKeep {β : Type} {H H' : List β} {n : Nat} {x : β} (h : H <+: H') (e : H[n]? = some x) : H'[n]? = some x := by
  obtain ⟨K, rfl⟩ := h
  rw [List.getElem?_append_left (List.getElem?_eq_some_iff.mp e).1]; exact e
theorem preApp {β : Type} (H K : List β) : H <+: H ++ K := ⟨K, rfl⟩
theorem preTrans {β : Type} {A B C : List β} (h1 : A <+: B) (h2 : B <+: C) : A <+: C := List.IsPrefix.trans h1 h2

theorem range_up (b : Int) : rangeL 0 b 1 = (List.range b.toNat).map fun (i : Nat) => (i : Int) := by
  unfold rangeL
  have : (Builtin.Range.rangeSize 0 b 1).toNat = b.toNat := by
    unfold Builtin.Range.rangeSize
    simp
    first | done | omega | (split <;> omega)
  rw [this]
  apply List.map_congr_left
  intro i _; omega
end Mine
namespace Mine
theorem forGo_rule {body : Loc → Hp → (Loc → Hp → Prop) → Prop} {i : Nat} {N : Loc → Hp → Prop} (I : List V → Loc → Hp → Prop)
    (step : ∀ (x : V) (xs : List V) (ρ : Loc) (H : Hp) (k : Loc → Hp → Prop), I (x :: xs) ρ H → (∀ ρ' H', I xs ρ' H' → k ρ' H') → body (lset ρ i x) H k) (fin : ∀ ρ H, I [] ρ H → N ρ H) :
    ∀ (xs : List V) (ρ : Loc) (H : Hp), I xs ρ H → forGo body i xs ρ H N
  | [], ρ, H, h => fin ρ H h
  | x :: xs, ρ, H, h => step x xs ρ H _ h fun ρ' H' h' => forGo_rule I step fin xs ρ' H' h'
end Mine
namespace Mine
open PySem
theorem rng1 {b : Int} {H : Hp} {Q : List V → Option Nat → Hp → Prop} (hb : smallI b) (h : Q ((List.range' 0 b.toNat).map fun (i : Nat) => V.int (i : Int)) none H) : rngWp [.int b] H Q := by
  refine ⟨0, b, 1, rfl, by unfold smallI; decide, hb, .inl rfl, ?_⟩
  rw [range_up, List.map_map, List.range_eq_range']; exact h
theorem Sm.pow {k : Nat} {x : Int} (h : Sm k x) : ∀ n : Nat, Sm (k * n + 1) (x ^ n)
  | 0 => by rw [Int.pow_zero]; unfold Sm; simp
  | n + 1 => by
    rw [Int.pow_succ]
    exact Sm.mono (Sm.mul (Sm.pow h n) h) (by rw [Nat.mul_succ]; omega)
end Mine
namespace Mine
theorem smallI_of {i : Int} (h1 : -1000000 ≤ i) (h2 : i ≤ 1000000) : smallI i := by
  have e : (2 : Int) ^ 40 = 1099511627776 := by decide
  unfold smallI
  rw [e]; omega
end Mine
namespace Mine
open PySem
theorem eqvAll_ints : ∀ xs ys : List Int, PyData.eqvAll (xs.map .int) (ys.map .int) = decide (xs = ys)
  | [], [] => rfl
  | [], _ :: _ => rfl
  | _ :: _, [] => rfl
  | x :: xs, y :: ys => by
    simp only [List.map_cons, PyData.eqvAll, PyData.eqv, eqvAll_ints xs ys, List.cons.injEq]
    by_cases h : x = y <;> simp [h]
theorem datOf_ints {H : Hp} {k n : Nat} {cs : List Int} (h : H[k]? = some (cs.map .int)) : datOf H (n + 1) (.lst k) = some (.list (cs.map .int)) := by
  have key : ∀ cs : List Int, (cs.map V.int).mapM (datOf H n) = some (cs.map PyData.int) := fun cs => by
    induction cs with
    | nil => rfl
    | cons c cs ih =>
      have h1 : datOf H n (.int c) = some (.int c) := by cases n <;> rfl
      simp [List.mapM_cons, h1, ih]
  simp only [datOf, h, key]; rfl
theorem eqWp_ints {H : Hp} {k l : Nat} {cs ds : List Int} {Q : Bool → Prop} (h1 : H[k]? = some (cs.map .int)) (h2 : H[l]? = some (ds.map .int)) (h : Q (decide (cs = ds))) : eqWp (.lst k) (.lst l) H Q :=
  ⟨_, _, datOf_ints h1, datOf_ints h2, by rw [PyData.eqv, eqvAll_ints]; exact h⟩
end Mine
namespace Mine
open PySem
section
variable {a b c : Int} {m n : Nat} {H : Hp} {Q : V → Hp → Prop} {x y : V} {xs ys : List V}
theorem w_add : binWp .add (.int a) (.int b) H Q = Q (.int (a + b)) H := rfl
theorem w_addl : binWp .add (.lst m) (.lst n) H Q = ifSome H[m]? fun xs => ifSome H[n]? fun ys => xs.length + ys.length ≤ lim ∧ Q (.lst H.length) (H ++ [xs ++ ys]) := rfl
theorem w_sub : binWp .sub (.int a) (.int b) H Q = Q (.int (a - b)) H := rfl
theorem w_mul : binWp .mul (.int a) (.int b) H Q = (IntMulOk a b ∧ Q (.int (a * b)) H) := rfl
theorem w_mull : binWp .mul (.lst m) (.int b) H Q = ∃ x, H[m]? = some [x] ∧ 0 ≤ b ∧ b ≤ lim ∧ Q (.lst H.length) (H ++ [List.replicate b.toNat x]) := rfl
theorem w_fdiv : binWp .fdiv (.int a) (.int b) H Q = (DivOk b ∧ Q (.int (a.fdiv b)) H) := rfl
theorem w_mod : binWp .mod (.int a) (.int b) H Q = (b ≠ 0 ∧ Q (.int (a.fmod b)) H) := rfl
theorem w_pow : binWp .pow (.int a) (.int b) H Q = (0 ≤ b ∧ b ≤ 1000 ∧ a.natAbs < 2 ^ 64 ∧ Q (.int (a ^ b.toNat)) H) := rfl
theorem w_lt : cmpWp .lt (.int a) (.int b) H Q = Q (.bool (decide (a < b))) H := rfl
theorem w_le : cmpWp .le (.int a) (.int b) H Q = Q (.bool (decide (a ≤ b))) H := rfl
theorem w_gt : cmpWp .gt (.int a) (.int b) H Q = Q (.bool (decide (b < a))) H := rfl
theorem w_ge : cmpWp .ge (.int a) (.int b) H Q = Q (.bool (decide (b ≤ a))) H := rfl
theorem w_eq : cmpWp .eq (.int a) (.int b) H Q = Q (.bool (decide (a = b))) H := rfl
theorem w_ne : cmpWp .ne (.int a) (.int b) H Q = Q (.bool (!decide (a = b))) H := rfl
theorem w_eqt : cmpWp .eq (.tup xs) y H Q = eqWp (.tup xs) y H fun b => Q (.bool b) H := rfl
theorem w_eql : cmpWp .eq (.lst m) y H Q = eqWp (.lst m) y H fun b => Q (.bool b) H := rfl
theorem w_net : cmpWp .ne (.tup xs) y H Q = eqWp (.tup xs) y H fun b => Q (.bool (!b)) H := rfl
theorem w_nel : cmpWp .ne (.lst m) y H Q = eqWp (.lst m) y H fun b => Q (.bool (!b)) H := rfl
theorem w_isn : cmpWp .is .none .none H Q = Q (.bool true) H := rfl
theorem w_ist : cmpWp .is (.tup xs) .none H Q = Q (.bool false) H := rfl
theorem w_isi : cmpWp .is (.int a) .none H Q = Q (.bool false) H := rfl
theorem w_isl : cmpWp .is (.lst m) .none H Q = Q (.bool false) H := rfl
theorem w_abs : biWp .abs [.int a] H Q = Q (.int (if a < 0 then -a else a)) H := rfl
theorem w_lent : biWp .len [.tup xs] H Q = Q (.int xs.length) H := rfl
theorem w_lenl : biWp .len [.lst m] H Q = ifSome H[m]? fun xs => Q (.int xs.length) H := rfl
theorem w_intb {t : Bool} : biWp .int [.bool t] H Q = Q (.int (if t then 1 else 0)) H := rfl
theorem w_list : biWp .list [x] H Q = ifSome (items H x) fun xs => Q (.lst H.length) (H ++ [xs]) := rfl
theorem w_tuple : biWp .tuple [x] H Q = ifSome (items H x) fun xs => Q (.tup xs) H := rfl
theorem w_min : biWp .min [.int a, .int b] H Q = Q (.int (if b < a then b else a)) H := rfl
theorem w_idxt0 : idxWp (.tup [x, y]) (.int 0) H Q = Q x H := rfl
theorem w_idxt1 : idxWp (.tup [x, y]) (.int 1) H Q = Q y H := rfl
theorem w_idxu0 {z : V} : idxWp (.tup [x, y, z]) (.int 0) H Q = Q x H := rfl
theorem w_idxu1 {z : V} : idxWp (.tup [x, y, z]) (.int 1) H Q = Q y H := rfl
theorem w_idxu2 {z : V} : idxWp (.tup [x, y, z]) (.int 2) H Q = Q z H := rfl
theorem w_idxl {k : Int} : idxWp (.lst m) (.int k) H Q = ifSome H[m]? fun xs => ifSome (place xs.length k) fun i => ifSome xs[i]? fun v => Q v H := rfl
theorem w_slcl {lo hi : Option V} : slcWp (.lst m) lo hi H Q = ifSome H[m]? fun xs => ifSome (cutAt xs.length lo hi) fun p => Q (.lst H.length) (H ++ [cut xs p.1 p.2]) := rfl
theorem w_slct {lo hi : Option V} : slcWp (.tup xs) lo hi H Q = ((∃ a, lo = some (.int a) ∧ hi = none ∧ 1 ≤ a ∧ a ≤ xs.length ∧ Q (.tup (xs.drop a.toNat)) H) ∨ (lo = none ∧ hi = some (.int (-1)) ∧ xs ≠ [] ∧ Q (.tup xs.dropLast) H)) := rfl
theorem w_tb {t : Bool} : truthV H (.bool t) = some t := rfl
theorem w_ti : truthV H (.int a) = some (a != 0) := rfl
theorem w_tn : truthV H .none = some false := rfl
theorem w_tt : truthV H (.tup xs) = some (!xs.isEmpty) := rfl
theorem w_tl : truthV H (.lst m) = (H[m]?).map fun xs => !xs.isEmpty := rfl
theorem w_itt : items H (.tup xs) = some xs := rfl
theorem w_itl : items H (.lst m) = H[m]? := rfl
theorem w_bindT1 : bindT 1 x = some [some x] := rfl
theorem w_bindT2 : bindT 2 (.tup [x, y]) = some [some x, some y] := rfl
theorem w_srcl : srcOf (.lst m) = some m := rfl
theorem w_srct : srcOf (.tup xs) = none := rfl
theorem w_cut2 {a b : Int} : cutAt n (some (.int a)) (some (.int b)) = some (clampAt n a, clampAt n b) := rfl
theorem w_cut1 {a : Int} : cutAt n (some (.int a)) none = some (clampAt n a, n) := rfl
theorem w_cut1' {a : Int} : cutAt n none (some (.int a)) = some (0, clampAt n a) := rfl
theorem w_cut0 : cutAt n none none = some (0, n) := rfl
variable {sub : Nat → Nat → Bool}
theorem w_ty1 : isTy sub (.int a) .int = some true := rfl
theorem w_ty2 : isTy sub (.int a) .bool = some false := rfl
theorem w_ty3 : isTy sub (.int a) .tuple = some false := rfl
theorem w_ty4 : isTy sub (.int a) .list = some false := rfl
theorem w_ty5 : isTy sub (.tup xs) .int = some false := rfl
theorem w_ty6 : isTy sub (.tup xs) .bool = some false := rfl
theorem w_ty7 : isTy sub (.tup xs) .tuple = some true := rfl
theorem w_ty8 : isTy sub (.tup xs) .list = some false := rfl
theorem w_ty9 : isTy sub (.lst m) .tuple = some false := rfl
theorem w_ty10 : isTy sub (.lst m) .list = some true := rfl
theorem w_ty11 : isTy sub (.lst m) .int = some false := rfl
theorem w_ty12 : isTy sub (.lst m) .bool = some false := rfl
theorem w_ty13 : isTy sub .none .int = some false := rfl
theorem w_ty14 : isTy sub .none .bool = some false := rfl
theorem w_ty15 : isTy sub .none .tuple = some false := rfl
theorem w_ty16 : isTy sub .none .list = some false := rfl
theorem w_ty17 {t : Bool} : isTy sub (.bool t) .int = some true := rfl
theorem w_ty18 {t : Bool} : isTy sub (.bool t) .bool = some true := rfl
theorem w_ty19 {t : Bool} : isTy sub (.bool t) .tuple = some false := rfl
theorem w_ty20 {t : Bool} : isTy sub (.bool t) .list = some false := rfl
theorem w_ty21 {i j : Nat} : isTy sub (.exc i) (.cls j) = some (sub i j) := rfl
end
end Mine
namespace Mine
theorem w_mapc {v : V} {l : List V} : List.map some (v :: l) = some v :: List.map some l := rfl
theorem w_mapn : List.map some ([] : List V) = [] := rfl
theorem w_appc {v : Option V} {l m : Loc} : v :: l ++ m = v :: (l ++ m) := rfl
theorem w_appn {m : Loc} : ([] : Loc) ++ m = m := rfl
theorem w_repc {n : Nat} : List.replicate (n + 1) (none : Option V) = none :: List.replicate n none := rfl
theorem w_repn : List.replicate 0 (none : Option V) = [] := rfl
theorem w_start {a b : Nat} {vs : List V} : startLoc a b vs = List.map some vs ++ List.replicate (b - a) none := rfl
theorem w_lenc {v : V} {l : List V} : (v :: l).length = l.length + 1 := rfl
theorem w_ifT {A B : Prop} : (if true = true then A else B) = A := rfl
theorem w_ifF {A B : Prop} : (if false = true then A else B) = B := rfl
theorem w_ifFF {A B : Prop} : (if false = false then A else B) = A := rfl
theorem w_ifTF {A B : Prop} : (if true = false then A else B) = B := rfl
theorem w_nT : (!true) = false := rfl
theorem w_anyT : [true].any id = true := rfl
theorem w_anyF : [false].any id = false := rfl
theorem w_d22 : decide (((2 : Nat) : Int) = 2) = true := rfl
theorem w_nF : (!false) = true := rfl
end Mine

set_option autoImplicit false
set_option linter.unusedVariables false
namespace Mine
open PySem PyProof.Rows PySem.Calls PySem.W
section
variable {prog : Program} {w : World}
theorem run_lawT {s : Shared} {gc : GC} {G : GV} {DT : List DefT} {P : List Fn} {VT : List (List Str)} {sub : Nat → Nat → Bool} {Ψ : Nat → List V → Hp → (V → Hp → Prop) → Prop} (F : GF G gc DT s.heap) (hlen : gc.fns.length = DT.length) (hchk : chkAll gc DT P VT = true)
    {l : Addr} {vs : List Value} {ns : List Int} (hP1 : P.length ≤ 1000) (hl : s.heap.IsList l vs.toArray) (hI : IntsAre vs ns) (h63 : ns.length ≤ 63) {k n : Nat} {x : Str} {fa : Addr} (hk : gc.fns[k]? = some x) (hfa : G.mg x = some (.ref fa)) (hn : n + 1 ≤ 600) {fd : Fn} (hf : P[k]? = some fd) (hnp : fd.np = 1)
    (hT : ∀ (d : DefT) (vn : List Str) (cd : Value), DT[k]? = some d → STry ⟨prog, w, G, DT, callerA.deeper (envOfC d.name d.scope s.heap.objs.size (G.fa k) cd), sub, topC Ψ (callN sub P n)⟩ ⟨⟨gc, d.scope, vn⟩, envOfC d.name d.scope s.heap.objs.size (G.fa k) cd, s.heap⟩)
    (hw : wpS sub (topC Ψ (callN sub P n)) (fun m => 1 ≤ m) fd.body (startLoc 1 fd.nv [.lst 0]) [ns.map .int] (fun _ _ => V.none = .bool true) (fun v _ => v = .bool true) (fun _ _ => False)) {R : Result → Shared → Prop}
    (hR : ∀ h' tk, KeepsH s.heap h' → R (.ok (.ret (.bool true))) { s with heap := h', toks := tk }) :
    codeAny (model prog w) callerA (.call (.ref fa) ⟨[.ref l], []⟩) R s := by
  obtain ⟨hP, hdefs⟩ := defs_of hchk
  have hroom : Room callerA (n + 1) := callerRoom hn
  have hf' : G.fa k = fa := by
    have := (F.fn k x hk).1
    rw [hfa] at this; injection this with this; injection this with this; exact this.symm
  have HR0 : HR G [l] s.heap [ns.map .int] := by
    refine ⟨rfl, by simp, by simp, fun m a xs e1 e2 => ?_⟩
    cases m with
    | zero =>
      simp at e1 e2; subst e1 e2
      refine ⟨vs, hl, reps_ints hI, ?_, fun h => absurd rfl h⟩
      rw [List.length_map]; exact Nat.le_trans h63 (by decide)
    | succ m => simp at e1
  have hS : ∀ env, SCall prog w G gc DT (callerA.deeper env) (topC Ψ (callN sub P n)) := fun env f x vs H Q hx hq s α vals E T R r => by
    rcases hq with ⟨_, hq⟩ | ⟨h1, _⟩
    · exact (scall_callN (prog := prog) (w := w) (G := G) (sub := sub) (by rw [hP, hlen]) hP1 hdefs n _ hroom.down).wp f x vs H Q hx hq s α vals E T R r
    · have := (List.getElem?_eq_some_iff.mp hx).1
      omega
  have := call_step (f := k) (s := s) (H := [ns.map .int]) (Q := fun v _ => v = V.bool true) (vs := [.lst 0]) hroom hdefs hS hT hk hf (by rw [hnp]; rfl) (by rw [hnp]; exact hw) [l] [.ref l] (fun _ _ => False) F HR0 (.cons (Rep.lst rfl) .nil)
  rw [hf'] at this
  refine codeAny_mono this fun r s' p => ?_
  cases r with
  | error e => exact p.elim
  | ok fl =>
    cases fl with
    | ret v =>
      obtain ⟨h', tk, β, K, d, rfl, kp, _, _, rp, rfl⟩ := p
      cases rp
      exact hR h' tk kp
    | _ => exact p.elim
end
end Mine

set_option autoImplicit false
set_option linter.unusedVariables false
namespace Mine
open PySem PyProof.Rows PySem.Calls

/-- all that is new since h₀, but L -/
noncomputable def newsAll (h₀ : Heap) (L : Addr) (h : Heap) : List (Addr × Obj) := (List.range h.objs.size).filterMap fun b => match h₀.get? b, h.get? b with
  | none, some o => if b = L then none else some (b, o)
  | _, _ => none
theorem newsAll_ok {h₀ h : Heap} {L : Addr} : News h₀ L h (newsAll h₀ L h) := fun p hp => by
  obtain ⟨b, _, e⟩ := List.mem_filterMap.mp hp
  cases e0 : h₀.get? b with
  | some o => rw [e0] at e; cases e
  | none =>
    cases e1 : h.get? b with
    | none => rw [e0, e1] at e; cases e
    | some o =>
      rw [e0, e1] at e
      by_cases hb : b = L
      · simp only [if_pos hb] at e; cases e
      · simp only [if_neg hb] at e; cases e; exact ⟨e1, hb, e0⟩
theorem newsAll_mem {h₀ h : Heap} {L b : Addr} {o : Obj} (e0 : h₀.get? b = none) (e1 : h.get? b = some o) (hb : b ≠ L) : (b, o) ∈ newsAll h₀ L h :=
  List.mem_filterMap.mpr ⟨b, List.mem_range.mpr (Heap.lt_size e1), by rw [e0, e1]; simp only [if_neg hb]⟩
theorem ns_same {h : Heap} {a : Addr} {m m' : Str → Option Value} (x : h.Ns a m) (y : h.Ns a m') : m = m' := by
  obtain ⟨o, es, ep, ho, hd, _, hf⟩ := x
  obtain ⟨o', es', ep', ho', hd', _, hf'⟩ := y
  rw [ho] at ho'; cases ho'
  rw [hd] at hd'; cases hd'
  funext n; rw [← hf n, ← hf' n]

section
variable {X : SX} {f : FC}
theorem HR.turn {W : Nat → Prop} {s : Shared} {α : List Addr} {ρ : Loc} {h' : Heap} {H : Hp} (K : f.hb.get? f.env.locals = none) (F : FrS X.G f W s.heap α ρ) (R : HR X.G α s.heap H) (k : ∀ b o, s.heap.get? b = some o → b ≠ f.env.locals → h'.get? b = some o) : HR X.G α h' H := by
  obtain ⟨m, cm, hn, _⟩ := F.fr
  obtain ⟨oL, es, ep, hoL, hdL, _⟩ := hn
  have kt : KeepsT s.heap h' := fun a items x => by
    obtain ⟨o, ho, hc', n, hd⟩ := x
    refine ⟨o, k a o ho fun ha => ?_, hc', n, hd⟩
    subst ha
    rw [ho] at hoL; cases hoL
    rw [hd] at hdL; cases hdL
  refine ⟨R.len, R.nodup, R.pos, fun n a xs e1 e2 => ?_⟩
  obtain ⟨vs, l, q, z, p⟩ := R.lst n a xs e1 e2
  have ha : a ≠ f.env.locals := fun ha => by
    subst ha
    obtain ⟨o, ho, hc', n', hd⟩ := l
    rw [ho] at hoL; cases hoL
    rw [hd] at hdL; cases hdL
  refine ⟨vs, ?_, q.mono (fun _ _ e => e) kt, z, fun hn => ?_⟩
  · obtain ⟨o, ho, r⟩ := l; exact ⟨o, k _ _ ho ha, r⟩
  · obtain ⟨n', e'⟩ := p hn; exact ⟨n', k _ _ e' ha⟩

end
end Mine
namespace Mine
open PySem PyProof.Rows PySem.Calls
/-- all is kept but some that are neither list nor tuple -/
structure KeepsB (D : Addr → Prop) (h h' : Heap) : Prop where
  keep : ∀ b o, h.get? b = some o → ¬ D b → h'.get? b = some o
  dict : ∀ b o, D b → h.get? b = some o → ∃ es n, o.data = .dict es n
theorem KeepsB.tup {D : Addr → Prop} {h h' : Heap} (k : KeepsB D h h') : KeepsT h h' := fun a items x => by
  obtain ⟨o, ho, hc, n, hd⟩ := x
  refine ⟨o, k.keep a o ho fun hD => ?_, hc, n, hd⟩
  obtain ⟨es, n', e⟩ := k.dict a o hD ho
  rw [hd] at e; cases e
theorem KeepsB.hr {D : Addr → Prop} {h h' : Heap} {G : GV} {α : List Addr} {H : Hp} (k : KeepsB D h h') (R : HR G α h H) : HR G α h' H := by
  refine ⟨R.len, R.nodup, R.pos, fun n a xs e1 e2 => ?_⟩
  obtain ⟨vs, l, q, z, p⟩ := R.lst n a xs e1 e2
  have ha : ¬ D a := fun hD => by
    obtain ⟨o, ho, hc, n', hd⟩ := l
    obtain ⟨es, n'', e⟩ := k.dict a o hD ho
    rw [hd] at e; cases e
  refine ⟨vs, ?_, q.mono (fun _ _ e => e) k.tup, z, fun hn => ?_⟩
  · obtain ⟨o, ho, r⟩ := l; exact ⟨o, k.keep _ _ ho ha, r⟩
  · obtain ⟨n', e'⟩ := p hn; exact ⟨n', k.keep _ _ e' ha⟩
theorem ns_dict {h : Heap} {a : Addr} {m : Str → Option Value} {o : Obj} (x : h.Ns a m) (e : h.get? a = some o) : ∃ es n, o.data = .dict es n := by
  obtain ⟨o', es, ep, ho, hd, _⟩ := x
  rw [e] at ho; cases ho
  exact ⟨es, ep, hd⟩
section
variable {X : SX} {f : FC}
/-- a call that catches, shown by the kit's walk -/
theorem stry_gen (hk : ∀ (k : Nat) (vs : List V) (H : Hp) (Q : V → Hp → Prop), X.Φ (k + 1000) vs H Q (fun _ _ => False) → ∀ (s : Shared) (α : List Addr) (vals : List Value) (E : Value → Shared → Prop) (m : Str → Option Value) (news : List (Addr × Obj)) (Z : Value → Shared → Prop),
      Fr f.hb f.env.locals s.heap m → News f.hb f.env.locals s.heap news → (∀ b o, s.heap.get? b = some o → f.hb.get? b = none → b ≠ f.env.locals → (b, o) ∈ news) → HR X.G α s.heap H → Reps X.G α s.heap vals vs →
      (∀ (v : Value) (d : V) (h' : Heap) (tk : Nat) (news' : List (Addr × Obj)) (β : List Addr) (K : Hp), Fr f.hb f.env.locals h' m → News f.hb f.env.locals h' news' → (∀ q ∈ news, q ∈ news') → (∀ b ∈ β, s.heap.get? b = none) → HR X.G (α ++ β) h' (H ++ K) → Rep X.G (α ++ β) h' v d → Q d (H ++ K) → Z v { s with heap := h', toks := tk }) →
      wpAny (model X.prog X.w) X.A (call (.ref (X.G.fa k)) vals) Z E s) (hL : f.hb.objs.size ≤ f.env.locals) : STry X f := fun k x vs H Q _ hq W s α ρ vals E T F R r => by
  have hd : f.hb.get? f.env.locals = none := get_ge_none hL
  obtain ⟨m, cm, hn, hrest⟩ := F.fr
  refine hk k vs H Q hq s α vals E m (newsAll f.hb f.env.locals s.heap) _ ⟨hn, F.kb, hL⟩ newsAll_ok (fun b o e1 e0 hb => newsAll_mem e0 e1 hb) R r fun v d h' tk news' β K F' N' sub fr hR rv hq' => ?_
  have keep : ∀ b o, s.heap.get? b = some o → b ≠ f.env.locals → h'.get? b = some o := fun b o e hb => by
    cases e0 : f.hb.get? b with
    | some o' =>
      have h1 := F.kb b o' e0
      rw [e] at h1; cases h1
      exact F'.keep b o e0
    | none => exact (N' _ (sub _ (newsAll_mem e0 e hb))).1
  refine ⟨h', tk, β, K, d, rfl, keep, fun m' hm' => ?_, fr, hR, rv, hq'⟩
  rw [← ns_same hn hm']; exact F'.ns
end
end Mine

set_option autoImplicit false
set_option linter.unusedVariables false
namespace Mine
open PySem PyProof.Rows PySem.Calls PySem.W

theorem raise_spec {c : MC} {k : Nat} {st : Stmt} (h : matchS c (.raise k) st = true) : ∃ x np u kk pp cpos pos, st = .Raise (some (.Call (.Name x np) [.Constant (.str u) kk pp] [] cpos)) none pos ∧ c.g.cls[k]? = some x ∧ c.isGlob x = true := by
  cases st <;> first | exact (Bool.false_ne_true h).elim | skip
  rename_i o o2 pos
  replace h := Bool.and_eq_true_iff.mp h
  have h2 := Option.isNone_iff_eq_none.mp h.1
  subst h2
  replace h := h.2
  cases o with
  | none => exact (Bool.false_ne_true h).elim
  | some x =>
    cases x <;> first | exact (Bool.false_ne_true h).elim | skip
    rename_i f as kw cpos
    replace h := Bool.and_eq_true_iff.mp h
    have h1 := Bool.and_eq_true_iff.mp h.1
    have hk := List.isEmpty_iff.mp h1.1
    subst hk
    have h2 := h.2
    cases ho : isOne as with
    | none => rw [ho] at h2; exact (Bool.false_ne_true h2).elim
    | some a =>
      rw [ho] at h2
      have ha := one_spec ho
      subst ha
      cases a <;> first | exact (Bool.false_ne_true h2).elim | skip
      rename_i k1 kk pp
      cases k1 <;> first | exact (Bool.false_ne_true h2).elim | skip
      rename_i u
      have h3 := h1.2
      unfold MC.clsNm at h3
      cases hc : c.g.cls[k]? with
      | none => rw [hc] at h3; exact (Bool.false_ne_true h3).elim
      | some x =>
        rw [hc] at h3
        obtain ⟨np, rfl, hg⟩ := MC.isNm_spec h3
        exact ⟨x, np, u, kk, pp, cpos, pos, rfl, rfl, hg⟩

theorem cellsFrom_none : ∀ {names : List (Str × NameKind)} {n : Nat} {acc : List (Str × Addr)}, (names.all fun x => !(x.2 == NameKind.cell)) = true → cellsFrom n names acc = acc
  | [], _, _, _ => rfl
  | (y, k) :: r, n, acc, h => by
    have h := Bool.and_eq_true_iff.mp h
    unfold cellsFrom
    have hk : (k == NameKind.cell) = false := by simpa using h.1
    rw [if_neg (by rw [hk]; exact Bool.false_ne_true)]
    exact cellsFrom_none h.2
theorem envOfC_eq {name : Str} {sc : Scope} {L a : Addr} {cd : Value} (h : (sc.names.all fun x => !(x.2 == NameKind.cell)) = true) : envOfC name sc L a cd = envOf name sc L a cd := by
  unfold envOfC envOf
  rw [cellsFrom_none h]

section
variable {prog : Program} {w : World} {G : GV} {gc : GC} {DT : List DefT} {P : List Fn} {sub : Nat → Nat → Bool} {view : Program} {loose : List Str} {mean : ExcName → Option Value} {mb : Str → Option Value}
theorem call_raise {n : Nat} {A : Around} {Φ : Call} {f : Nat} {s : Shared} (hA : Room A (n + 1)) (hdefs : ∀ (k : Nat) (d : DefT) (f : Fn), DT[k]? = some d → P[k]? = some f → ∃ vs, DefOk gc d f vs) (hΦ : ∀ env, SCall prog w G gc DT (A.deeper env) Φ)
    (hT : ∀ k vs H Q, ¬ Φ (k + 1000) vs H Q (fun _ _ => False)) {x : Str} {vs : List V} {H : Hp} {Q : V → Hp → Prop} {Y : Nat → Hp → Prop} {fd : Fn} (hx : gc.fns[f]? = some x) (hf : P[f]? = some fd) (hlen : vs.length = fd.np)
    (hw : wpS sub Φ (fun m => H.length ≤ m) fd.body (startLoc fd.np fd.nv vs) H (fun _ H' => Q .none H') Q Y) (α : List Addr) (vals : List Value) (E : Value → Shared → Prop) (T : GF G gc DT s.heap) (R : HR G α s.heap H) (r : Reps G α s.heap vals vs)
    {base : Heap} {outer : List Env} (KB : Below A base outer s.heap) (TT : Top view loose mean G.mg mb s.heap) (hcell : ∀ d, DT[f]? = some d → (d.scope.names.all fun x => !(x.2 == NameKind.cell)) = true)
    (hspec : ∀ k x H', gc.cls[k]? = some x → Y k H' → specOf view x = some ("ValueError.__new__", [.type "ValueError", .type "Exception", .type "BaseException", .type "object"]))
    (hX : ∀ (k : Nat) (x : Str) (C e t : Addr) (us : List Value) (h' : Heap) (tk : Nat) (H' : Hp), gc.cls[k]? = some x → G.mg x = some (.ref C) → Y k H' → RaisedS base s.heap outer e (.ref C) t us [] h' → s.heap.UpToSlots h' → E (.ref e) { s with heap := h', toks := tk }) :
    codeAny (model prog w) A (.call (.ref (G.fa f)) ⟨vals, []⟩) (fun r s' => match r with | .ok (.ret v) => Post G (Rep G) s α H Q v s' | .ok _ => False | .error e => E e s') s := by
  refine call_core hA hdefs hΦ (fun d vn cd _ k x vs H Q _ hk => (hT k vs H Q hk).elim) hx hf hlen hw α vals E (fun d vn cd h₁ tk hd D hk => ?_) T R r
  intro k st h' tk' β H' ρ' hm st' lv R' F' y
  obtain ⟨x, np, u, kk, pp, cpos, pos, rfl, hcls, hgl⟩ := raise_spec hm
  have O : EnvOk ⟨gc, d.scope, vn⟩ (envOfC d.name d.scope s.heap.objs.size (G.fa f) cd) := envOk_of D _ _ _
  have FI' := F'.fi
  obtain ⟨m, cm, hn, hc, hv⟩ := F'.fr
  have Fr0 : Fr s.heap s.heap.objs.size h' m := ⟨hn, F'.kb, Nat.le_refl _⟩
  have henv := envOfC_eq (name := d.name) (L := s.heap.objs.size) (a := G.fa f) (cd := cd) (hcell d hd)
  obtain ⟨hgk, hgd⟩ := MC.isGlob_spec hgl
  have T' : GF G gc DT h' := T.keeps F'.kb
  have ev := ses_cons (X := ⟨prog, w, G, DT, A.deeper (envOfC d.name d.scope s.heap.objs.size (G.fa f) cd), sub, Φ⟩) (c := ⟨gc, d.scope, vn⟩) rfl (se_cstr (i := u) (k := kk) (pos := pp)) ses_nil _ { s with heap := h', toks := tk' } (α ++ β) ρ' H' (fun _ _ => True)
    (fun e s' => wpAny (model prog w) (A.deeper (envOfC d.name d.scope s.heap.objs.size (G.fa f) cd)) (leaving (envOfC d.name d.scope s.heap.objs.size (G.fa f) cd) e) (fun _ s'' => E e s'') (fun e' s'' => E e' s'') s') cpos O T' R' FI' trivial
  have hgk' := O.glob x hgk
  dsimp only at ev ⊢
  rw [henv] at ev hgk' ⊢
  refine Raise_top (s := { s with heap := h', toks := tk' }) Fr0 TT PySem.F.excBase_ValueError (hspec k x H' hcls y) hA.handled (fun C hmean hmg => ?_) rfl rfl D.kind hgk' hgd
  refine wpAny_mono ev (fun us s₂ p => ?_) fun _ _ e => e
  obtain ⟨h₂, tk₂, β₂, K₂, ds, rfl, k₂, f₂, R₂, r₂, _⟩ := p
  refine ⟨?_, fun b o e => k₂ b o (F'.kb b o e), fun h3 e hx => ?_⟩
  · rw [r₂.2, sizeLine_eq]; show 1 ≤ 16777216; decide
  · exact leave_raiseS (s' := { s with heap := h3, toks := tk₂ }) KB hx (Fr0.keeps k₂) News.nil (fun h4 t RS _ us' => hX k x C e t us h4 tk₂ H' hcls hmg y RS us') D.kind
end
end Mine

set_option autoImplicit false
set_option linter.unusedVariables false
namespace Mine
open PySem PyProof.Rows PySem.Calls PySem.W
theorem keepsB_led {h₀ h h' : Heap} {L : Addr} {m : Str → Option Value} {news : List (Addr × Obj)} (F : Fr h₀ L h m) (full : ∀ b o, h.get? b = some o → h₀.get? b = none → b ≠ L → (b, o) ∈ news)
    (kp : ∀ b o, h₀.get? b = some o → h'.get? b = some o) (N : ∀ q ∈ news, h'.get? q.1 = some q.2) : KeepsB (fun b => b = L) h h' where
  keep := fun b o e hb => by
    cases e0 : h₀.get? b with
    | some o' =>
      have h1 := F.keep b o' e0
      rw [e] at h1; cases h1
      exact kp b o e0
    | none => exact N _ (full b o e e0 hb)
  dict := fun b o hb e => by subst hb; exact ns_dict F.ns e
theorem keepsB_two {h₀ g h h' : Heap} {L L' : Addr} {m m' : Str → Option Value} (FG : Fr h₀ L g m) (F : Fr g L' h m') (kp : ∀ b o, g.get? b = some o → b ≠ L → h'.get? b = some o) (N : ∀ q ∈ newsAll g L' h, h'.get? q.1 = some q.2) : KeepsB (fun b => b = L ∨ b = L') h h' where
  keep := fun b o e hb => by
    cases e0 : g.get? b with
    | some o' =>
      have h1 := F.keep b o' e0
      rw [e] at h1; cases h1
      exact kp b o e0 fun q => hb (.inl q)
    | none => exact N _ (newsAll_mem e0 e fun q => hb (.inr q))
  dict := fun b o hb e => by
    rcases hb with rfl | rfl
    · obtain ⟨o', es, ep, ho, hd, _⟩ := FG.ns
      have := F.keep _ _ ho
      rw [e] at this; cases this
      exact ⟨es, ep, hd⟩
    · exact ns_dict F.ns e
/-- a raise out of a call keeps what is new before it -/
theorem raised_news {base G g h : Heap} {l : List Env} {e t : Addr} {cls : Value} {vs : List Value} {L : Addr} {m : Str → Option Value} {news : List (Addr × Obj)} (R : RaisedS base G l e cls t vs [] h) (N : News g L G news) (F : Fr g L G m)
    (hb : ∀ b, g.get? b = none → base.get? b = none) (hfr : ∀ q ∈ news, q.1 ∉ l.filterMap (·.frame)) (U : G.UpToSlots h) : ∃ G₂, RaisedS base G₂ l e cls t vs news h ∧ Fr g L G₂ m ∧ G₂.UpToSlots h := by
  obtain ⟨⟨B, hB, hG, _, hfl, ht⟩, htup⟩ := R
  refine ⟨hideAll G (news.map (·.1)), ⟨⟨B, hB, fun b o e hb => hG b o (of_hideAll _ e) hb, fun q hq => ⟨hG _ _ (N q hq).1 (hfr q hq), hideAll_none _ (List.mem_map_of_mem hq), hb _ (N q hq).2.2⟩, hfl, ht⟩, htup⟩, ⟨?_, fun b o e => ?_, F.above⟩, fun b o e => U b o (of_hideAll _ e)⟩
  · obtain ⟨o, es, ep, ho, r⟩ := F.ns
    refine ⟨o, es, ep, hideAll_get _ ho fun hm => ?_, r⟩
    obtain ⟨q, hq, e⟩ := List.mem_map.mp hm
    exact (N q hq).2.1 e
  · refine hideAll_get _ (F.keep b o e) fun hm => ?_
    obtain ⟨q, hq, e'⟩ := List.mem_map.mp hm
    have := (N q hq).2.2
    rw [e', e] at this; cases this
end Mine
namespace Mine
open PySem PyProof.Rows PySem.Calls PySem.W
theorem reps3 {G : GV} {α : List Addr} {h : Heap} {vals : List Value} {vs : List V} (r : Reps G α h vals vs) (e : vs.length = 3) : ∃ a b c, vals = [a, b, c] := by
  cases r with
  | nil => cases e
  | cons _ r =>
    cases r with
    | nil => cases e
    | cons _ r =>
      cases r with
      | nil => cases e
      | cons _ r =>
        cases r with
        | nil => exact ⟨_, _, _, rfl⟩
        | cons _ r => cases e
theorem callN_no {sub : Nat → Nat → Bool} {P : List Fn} (hP : P.length ≤ 1000) : ∀ (n k : Nat) (vs : List V) (H : Hp) (Q : V → Hp → Prop), ¬ callN sub P n (k + 1000) vs H Q (fun _ _ => False)
  | 0, _, _, _, _, h => h
  | n + 1, k, vs, H, Q, h => by
    obtain ⟨d, hd, _⟩ := h
    have := (List.getElem?_eq_some_iff.mp hd).1
    omega
end Mine
namespace Mine
open PySem PyProof.Rows PySem.Calls PySem.W
theorem told_rep {G : GV} {α : List Addr} {h : Heap} {a : Addr} {x : Str} {t : Tok} {v : Value} {d : V} (e : h.get? a = some { cls := .type "tuple", data := .seq #[.str x t, v] }) (r : Rep G α h v d) : Rep G α h (.ref a) (.tup [.str x, d]) :=
  .tup ⟨_, e, rfl, _, rfl⟩ (.cons (.str _ _) (.cons r .nil)) (show 2 ≤ lim by decide)
end Mine
namespace Mine
open PySem PyProof.Rows PySem.Calls PySem.W
theorem told_end {G : GV} {s : Shared} {h₀ h' : Heap} {L : Addr} {m : Str → Option Value} {α : List Addr} {H : Hp} {Q : V → Hp → Prop} {Z : Value → Shared → Prop} {news news' : List (Addr × Obj)} {x y : Str} {a : Addr} {t : Tok} {tk : Nat}
    (hZ : ∀ (v : Value) (d : V) (h' : Heap) (tk : Nat) (news' : List (Addr × Obj)) (β : List Addr) (K : Hp), Fr h₀ L h' m → News h₀ L h' news' → (∀ q ∈ news, q ∈ news') → (∀ b ∈ β, s.heap.get? b = none) →
        HR G (α ++ β) h' (H ++ K) → Rep G (α ++ β) h' v d → Q d (H ++ K) → Z v { s with heap := h', toks := tk })
    (F0 : Fr h₀ L s.heap m) (full : ∀ b o, s.heap.get? b = some o → h₀.get? b = none → b ≠ L → (b, o) ∈ news) (hR : HR G α s.heap H) (hy : Q (.tup [.str x, .none]) H) (hxy : x = y) (F : Fr h₀ L h' m) (N : News h₀ L h' news')
    (e : h'.get? a = some { cls := .type "tuple", data := .seq #[.str y t, .none] }) (sb : ∀ q ∈ news, q ∈ news') : Z (.ref a) { s with heap := h', toks := tk } := by
  subst hxy
  have kB := keepsB_led F0 full F.keep (fun q hq => (N q (sb q hq)).1)
  refine hZ _ _ h' tk news' [] [] F N sb (fun b hb => (nomatch hb)) ?_ (told_rep e .none) ?_
  · rw [List.append_nil, List.append_nil]; exact kB.hr hR
  · rw [List.append_nil]; exact hy
end Mine

set_option autoImplicit false
set_option linter.unusedVariables false
namespace Mine
open PySem PyProof.Rows PySem.Calls PySem.W
section
variable {prog : Program} {w : World} {A : Around} {E : Value → Shared → Prop} {s : Shared} {h₀ : Heap} {L D D' : Addr} {m : Str → Option Value} {news : List (Addr × Obj)} {v : Value} {n n' : Nat} {k : Int} {u : Tok} {Q : Value → Shared → Prop}
theorem push_K {o : Obj} (ha : o.isFreed = false) (F : Fr h₀ L s.heap m) (N : News h₀ L s.heap news) (h : ∀ l h', Fr h₀ L h' m → News h₀ L h' ((l, o) :: news) → (∀ p ∈ news, p.1 < l) → Q (.ref l) { s with heap := h' }) :
    Q (.ref s.heap.objs.size) { s with heap := s.heap.push o } := h _ _ (F.push _) (N.push F _ ha) fun p hp => Heap.lt_size (N p hp).1
theorem mulT_K (F : Fr h₀ L s.heap m) (N : News h₀ L s.heap news) (hD : (D, listOf [v].toArray n) ∈ news) (hk : k = 1)
    (h : ∀ l h', Fr h₀ L h' m → News h₀ L h' ((l, listOf [v].toArray 0) :: news) → (∀ p ∈ news, p.1 < l) → Q (.ref l) { s with heap := h' }) : wpAny (model prog w) A (binaryOp .Mult (.ref D) (.int k u)) Q E s := by
  subst hk
  exact mul_list' ⟨_, (N _ hD).1, rfl, _, rfl⟩ (by decide) (by decide) (push_K rfl F N h)
theorem mulF_K (F : Fr h₀ L s.heap m) (N : News h₀ L s.heap news) (hD : (D, listOf [v].toArray n) ∈ news) (hk : k = 0)
    (h : ∀ l h', Fr h₀ L h' m → News h₀ L h' ((l, listOf [].toArray 0) :: news) → (∀ p ∈ news, p.1 < l) → Q (.ref l) { s with heap := h' }) : wpAny (model prog w) A (binaryOp .Mult (.ref D) (.int k u)) Q E s := by
  subst hk
  exact mul_list' ⟨_, (N _ hD).1, rfl, _, rfl⟩ (by decide) (by decide) (push_K rfl F N h)
theorem addL_K {vs ws : List Value} (F : Fr h₀ L s.heap m) (N : News h₀ L s.heap news) (hD : (D, listOf vs.toArray n) ∈ news) (hD' : (D', listOf ws.toArray n') ∈ news) (hz : vs.length + ws.length ≤ sizeLine)
    (h : ∀ l h', Fr h₀ L h' m → News h₀ L h' ((l, listOf (vs ++ ws).toArray 0) :: news) → (∀ p ∈ news, p.1 < l) → Q (.ref l) { s with heap := h' }) : wpAny (model prog w) A (binaryOp .Add (.ref D) (.ref D')) Q E s :=
  add_lists' ⟨_, (N _ hD).1, rfl, _, rfl⟩ ⟨_, (N _ hD').1, rfl, _, rfl⟩ hz (push_K rfl F N h)
end
end Mine

namespace Mine
open PySem PySem.W PySem.Calls PyProof.Rows

/-- the top's run over a tree for a heap; it forces the counter at each step -/
noncomputable def topRunT (tb : String → Option Builtin) (p : Program) (w : World) (n₀ : Nat) (ann : Option Value) : Nat → SharedT → Thread → Option SharedT
  | 0, _, _ => none
  | n + 1, s, t => match through t with
    | true => some s
    | false => match stepOk n₀ ann t with
      | false => none
      | true => match stepT (denote tb) p w s t with
        | some (⟨T, m, l, g, d, 0, o⟩, t') => topRunT tb p w n₀ ann n ⟨T, m, l, g, d, 0, o⟩ t'
        | some (⟨T, m, l, g, d, k + 1, o⟩, t') => topRunT tb p w n₀ ann n ⟨T, m, l, g, d, k + 1, o⟩ t'
        | none => none

theorem topRunT_of {tb : String → Option Builtin} {p : Program} {w : World} {n₀ : Nat} {ann : Option Value} : ∀ {n : Nat} {s s' : SharedT} {t : Thread}, topRunT tb p w n₀ ann n s t = some s' → topRun tb p w n₀ ann n s.abs t = some s'.abs
  | 0, _, _, _, h => by cases h
  | n + 1, s, s', t, h => by
    unfold topRunT at h
    unfold topRun
    cases he : through t with
    | true => rw [he] at h; cases h; rfl
    | false =>
      rw [he] at h
      cases hk : stepOk n₀ ann t with
      | false => rw [hk] at h; cases h
      | true =>
        rw [hk] at h
        cases hs : stepT (denote tb) p w s t with
        | none => rw [hs] at h; cases h
        | some r =>
          obtain ⟨⟨T, m, l, g, d, k, o⟩, t₂⟩ := r
          rw [hs] at h
          rw [stepT_spec hs]
          cases k with
          | zero => exact topRunT_of h
          | succ k => exact topRunT_of h

noncomputable def bt : List Obj → Nat → BT → BT
  | [], _, t => t
  | o :: l, n, t => bt l (n + 1) (t.ins n o)
noncomputable def bootT (P : Params) (os : OsState) : SharedT := ⟨bt (boot_heap P).objs.toList 0 .nil, (boot_heap P).objs.size, (boot_heap P).life, Array.mk [], boot_drawn, boot_toks, os⟩
theorem bootT_abs (P : Params) (os : OsState) : (bootT P os).abs = ⟨boot_heap P, Array.mk [], boot_drawn, boot_toks, os⟩ := by kernel_rfl

/-- all the looks at the state behind the top -/
noncomputable def lookAll (p q : Program) (loose : List Str) (Xt : Shared → Bool) {α : Type} (Yf : Shared → α) (P : Params) (s : Shared) :=
  ((staticsOk (importedModules p.main.body) (boot_heap P) s.heap && namesBound p s.heap && gensDone s && laidKept (boot_heap P) s.heap), openSeen q loose (importedModules p.main.body) Xt true s, Yf s)
noncomputable def endsT (p q : Program) (loose : List Str) (Xt : Shared → Bool) {α : Type} (Yf : Shared → α) (m₀ : Nat) (ann : Option Value) (N : Nat) (w : World) (os : OsState) :=
  (topRunT treeTable p w m₀ ann N (bootT w.params os) (topStub p)).map fun s => lookAll p q loose Xt Yf w.params s.abs

theorem leftO_of {p q : Program} {loose : List Str} {Xt : Shared → Bool} {α : Type} {Yf : Shared → α} {Ya : World → α} {N : Nat} {m₀ : Nat} {ann : Option Value}
    (e : opening p = plainProg p.main.scope.names) (hN : Nat.ble 600 N = true) (f : ∀ s, fenceModules? p s = some s)
    (size : ∀ w : World, ((boot_heap w.params).isNs mainGlobals, (boot_heap w.params).objs.size, (boot_heap w.params).nsMap mainGlobals "__annotations__") = (true, m₀, ann))
    (run : ∀ (w : World) (os : OsState), endsT p q loose Xt Yf m₀ ann N w os = some (true, openGood q loose, Ya w)) : LeftO p q loose Xt Yf Ya N := fun w => by
  obtain ⟨⟨h, gs, d, k, os⟩, e, e'⟩ := Option.map_eq_some_iff.mp (boot_open e hN f w)
  obtain ⟨rfl, rfl, rfl, rfl⟩ : h = boot_heap w.params ∧ gs = Array.mk [] ∧ d = boot_drawn ∧ k = boot_toks := by simpa using e'
  obtain ⟨z1, z2, z3⟩ : _ ∧ _ ∧ _ := by simpa only [Prod.mk.injEq] using size w
  obtain ⟨s₁, hr, hl⟩ := Option.map_eq_some_iff.mp (run w os)
  have r := topRunT_of hr
  rw [bootT_abs] at r
  obtain ⟨l1, l2, l3⟩ : _ ∧ _ ∧ _ := by simpa only [lookAll, Prod.mk.injEq] using hl
  have t : topFrom treeTable p w N ⟨boot_heap w.params, Array.mk [], boot_drawn, boot_toks, os⟩ = some s₁.abs := by
    unfold topFrom
    dsimp only
    rw [z1, z2, z3, r]
    show (match staticsOk (importedModules p.main.body) (boot_heap w.params) s₁.abs.heap && namesBound p s₁.abs.heap && gensDone s₁.abs && laidKept (boot_heap w.params) s₁.abs.heap with | true => _ | false => _) = _
    rw [l1]
  unfold openEnds
  rw [e]
  show (topFrom treeTable p w N _).map _ = _
  rw [t]
  exact congrArg some (Prod.ext l2 l3)
end Mine

set_option autoImplicit false
set_option linter.unusedVariables false
set_option maxRecDepth 100000
namespace Mine
open PySem PySem.W PySem.Calls PyProof.Rows PySem.Builtin PySem.Builtin.ObjectAttr PySem.Builtin.Getset_descriptor

/-- an object of an own exception class -/
noncomputable def ExcAt (a C : Addr) (h : Heap) : Prop := ∃ o, h.get? a = some o ∧ o.cls = .ref C

section
variable {K : Frag} {prog : Program} {w : World} {A : Around} {E : Value → Shared → Prop} {h : Heap} {g : Array GenState} {d : Drawn} {t : Nat} {os : OsState} {a C : Addr} {o : Obj}
theorem excAt_N {h₀ : Heap} {L : Addr} {news : List (Addr × Obj)} (N : News h₀ L h news) (hm : (a, o) ∈ news) (hc : o.cls = .ref C) : ExcAt a C h := ⟨o, (N _ hm).1, hc⟩
theorem news_cons {h₀ : Heap} {L : Addr} {news : List (Addr × Obj)} {q : Addr × Obj} (N : News h₀ L h news) (hq : h.get? q.1 = some q.2 ∧ q.1 ≠ L ∧ h₀.get? q.1 = none) : News h₀ L h (q :: news) := fun p hp => by
  rcases List.mem_cons.mp hp with rfl | hp
  · exact hq
  · exact N p hp
theorem exc_ty (M : Model) (hx : h.get? a = some o) (hc : o.cls = .ref C) : Looks M h (typeOf (.ref a)) (.ref C) := hc ▸ (Looks.ld hx).andThen .now

theorem class_get_exc {tp : Value} {R : Result → Shared → Prop} (X : K.In h) (hx : h.get? a = some o) (hc : o.cls = .ref C) (hm : mroIn K C (.type "object") = some true)
    (hq : R (.ok (.ret (.ref C))) ⟨h, g, d, t, os⟩) : codeAny (model prog w) A (.call (.builtin "getset_descriptor.__get__") ⟨[.builtin "object.__class__", .ref a, tp], []⟩) R ⟨h, g, d, t, os⟩ := by
  have L0 := exc_ty (model prog w) hx hc
  have L1 := looks_mroIn (M := model prog w) X hm
  refine codeAny_call_builtin KF.slot_gs.plain KF.entry_gs (KF.slot_gs.check _ _ _ _ _ _ _ _ KF.type_class (KF.args_gs _ _ _) ?_)
  unfold Builtin.«getset_descriptor.__get__» descrGet
  rw [dga_obj]
  refine wpAny_bind (wpAny_pure ?_)
  unfold descrGetter descrCheckInstance descrNameAndClass isInstance
  simp only [KF.owner_class]
  repeat lk
  refine ⟨Code.quiet_builtin _ (by decide +kernel), codeAny_builtin KF.entry_class ?_⟩
  unfold Builtin.«object.__class__» shownTypeOf
  repeat lk
  exact hq
end
end Mine
namespace Mine
open PySem PySem.W PySem.Calls PyProof.Rows PySem.Builtin PySem.Builtin.ObjectAttr PySem.Builtin.Getset_descriptor
section
variable {K : Frag} {prog : Program} {w : World} {A : Around} {E : Value → Shared → Prop} {h : Heap} {g : Array GenState} {d : Drawn} {t : Nat} {os : OsState} {a C : Addr} {o : Obj}
theorem check_ga_exc {M : Model} {nameV : Value} {Q : Unit → Shared → Prop} (X : K.In h) (hx : h.get? a = some o) (hc : o.cls = .ref C) (hb : subIn K (.ref C) (.type "BaseException") = some true)
    (hq : Q () ⟨h, g, d, t, os⟩) : wpAny M A (checkBuiltinCall "BaseException.__getattribute__" ⟨[.ref a, nameV], []⟩) Q E ⟨h, g, d, t, os⟩ := by
  have hk : builtinKind "BaseException.__getattribute__" = some .slot := by decide +kernel
  have hsplit : splitId "BaseException.__getattribute__" = some ("BaseException", "__getattribute__") := by decide +kernel
  have L0 := exc_ty M hx hc
  have L1 : Looks M h (isSubtype (.ref C) (.type "BaseException")) true := looks_subIn X hb
  have ha := F.args_bexc_ga (.ref a) nameV
  simp only [checkBuiltinCall, hk, hsplit]
  refine wpAny_bind ?_
  · unfold isInstance
    refine wpAny_bind (L0.at (L1.at ?_))
    repeat (first | wp_step)
    exact hq
theorem class_entry_exc {tk : Tok} {Q : Fin → Shared → Prop} (X : K.In h) (hx : h.get? a = some o) (hc : o.cls = .ref C) (f3 : findIn K (.ref C) "__class__" = some (some (.builtin "object.__class__"))) (hm : mroIn K C (.type "object") = some true)
    (hq : Q (.done (.ret (.ref C))) ⟨h, g, d, t, os⟩) : wpAny (model prog w) A (Builtin.«object.__getattribute__» ⟨[.ref a, .str "__class__" tk], []⟩) Q E ⟨h, g, d, t, os⟩ := by
  have L0 := exc_ty (model prog w) hx hc
  have L1 := looks_findIn (M := model prog w) X f3
  have hT5 : (⟨h, g, d, t, os⟩ : Shared).TypeIs (.builtin "object.__class__") "getset_descriptor" := F.typeOf_object_class
  have f5 := F.typeOf_object_class
  have f6 := F.slot_gs_get.lookup
  have f7 := F.slot_gs_set.lookup
  repeat (any_goals (first | assumption | with_reducible refine L0.at ?_ | with_reducible refine L1.at ?_ | wp_step))
  refine class_get_exc X hx hc hm ?_
  repeat (any_goals (first | assumption | wp_step))
theorem class_by_exc {tk : Tok} {Q : Value → Shared → Prop} (X : K.In h) (hx : h.get? a = some o) (hc : o.cls = .ref C) (hb : subIn K (.ref C) (.type "BaseException") = some true) (f1 : findIn K (.ref C) "__getattribute__" = some (some (.builtin "BaseException.__getattribute__")))
    (f2 : findIn K (.ref C) "__getattr__" = some none) (f3 : findIn K (.ref C) "__class__" = some (some (.builtin "object.__class__"))) (hm : mroIn K C (.type "object") = some true) (hq : Q (.ref C) ⟨h, g, d, t, os⟩) :
    wpAny (model prog w) A (getAttrBy (.ref a) (.str "__class__" tk) false) Q E ⟨h, g, d, t, os⟩ := by
  have L0 := exc_ty (model prog w) hx hc
  have L1 := looks_findIn (M := model prog w) X f1
  have L2 := looks_findIn (M := model prog w) X f2
  have f3' := F.attr_ValueError.ga.bind (.ref a)
  have hx2 : (Value.builtin "BaseException.__getattribute__" == Value.builtin "object.__getattribute__") = false := by decide +kernel
  have hx1 : (onTheHeap (Value.ref C) && Value.builtin "BaseException.__getattribute__" == Value.builtin "object.__getattribute__") = false := by rw [hx2]; rfl
  repeat (any_goals (first | assumption | with_reducible refine L0.at ?_ | with_reducible refine L1.at ?_ | with_reducible refine L2.at ?_ | wp_step))
  refine codeAny_call_builtin F.attr_ValueError.ga.plain F.entry_bexc_ga (check_ga_exc X hx hc hb (class_entry_exc X hx hc f3 hm ?_))
  repeat (any_goals (first | assumption | wp_step))
theorem class_attr_exc {Q : Option Value → Shared → Prop} (X : K.In h) (hx : h.get? a = some o) (hc : o.cls = .ref C) (hb : subIn K (.ref C) (.type "BaseException") = some true) (f1 : findIn K (.ref C) "__getattribute__" = some (some (.builtin "BaseException.__getattribute__")))
    (f2 : findIn K (.ref C) "__getattr__" = some none) (f3 : findIn K (.ref C) "__class__" = some (some (.builtin "object.__class__"))) (hm : mroIn K C (.type "object") = some true) (hq : Q (some (.ref C)) ⟨h, g, d, t + 1, os⟩) :
    wpAny (model prog w) A (getAttr? (.ref a) "__class__") Q E ⟨h, g, d, t, os⟩ := by
  unfold getAttr? getAttrBy?
  repeat (any_goals (first | assumption | with_reducible apply class_by_exc X hx hc hb f1 f2 f3 hm | wp_step))
theorem kitx_exc (hb : subIn K (.ref C) (.type "BaseException") = some true) (f1 : findIn K (.ref C) "__getattribute__" = some (some (.builtin "BaseException.__getattribute__")))
    (f2 : findIn K (.ref C) "__getattr__" = some none) (f3 : findIn K (.ref C) "__class__" = some (some (.builtin "object.__class__"))) (hm : mroIn K C (.type "object") = some true) :
    KitX K (.ref a) (.ref C) (ExcAt a C) where
  ty := fun M h _ p => by obtain ⟨o, hx, hc⟩ := p; exact exc_ty M hx hc
  it := fun _ _ X _ => by
    obtain ⟨cdD, hcl, _⟩ := Option.bind_eq_some_iff.mp hm
    unfold clsIn at hcl
    split at hcl
    · rename_i c' d' cd' sl' ho
      intro A' Q' E' s' k q
      unfold isType loadHead
      exact wpAny_bind (wpAny_loadPart (k _ _ (X _ _ ho)) (wpAny_pure q))
    · cases hcl
  ne := fun h tp dd its n sl X htp => by
    refine Bool.eq_false_iff.mpr fun q => ?_
    have e : C = tp := Value.ref.inj (beq_iff_eq.mp q)
    subst e
    obtain ⟨cdD, hcl, _⟩ := Option.bind_eq_some_iff.mp hm
    unfold clsIn at hcl
    split at hcl
    · rename_i c' d' cd' sl' ho
      have z := (X _ _ ho).symm.trans htp
      cases z
    · cases hcl
  ca := fun {_ _ _ _ _ s} X p k => by
    obtain ⟨h, g, d, t, os⟩ := s
    obtain ⟨o, hx, hc⟩ := p
    exact class_attr_exc X hx hc hb f1 f2 f3 hm k
end
end Mine

set_option autoImplicit false
namespace Mine
noncomputable def sgn (x : Int) : Int := if x < 0 then -1 else if 0 < x then 1 else 0
/-- the row's value at p by q, times q to the degree -/
noncomputable def hval (p q : Int) : List Int → Int
  | [] => 0
  | c :: cs => hval p q cs * p + c * q ^ cs.length
end Mine

set_option autoImplicit false
namespace Mine

/-- the row times (a + b x), c carried in -/
noncomputable def mulG (a b : Int) : Int → List Int → List Int
  | c, [] => [c]
  | c, x :: r => (c + x * a) :: mulG a b (x * b) r
noncomputable def addL (xs ys : List Int) : List Int := List.zipWith (fun x y => x + y) xs ys
noncomputable def smul (c : Int) (xs : List Int) : List Int := xs.map fun x => c * x
noncomputable def mulN (a b : Int) : Nat → List Int → List Int
  | 0, xs => xs
  | n + 1, xs => mulG a b 0 (mulN a b n xs)
noncomputable def zeros (n : Nat) : List Int := List.replicate n 0

theorem mulG_len {a b : Int} : ∀ {c : Int} {xs : List Int}, (mulG a b c xs).length = xs.length + 1
  | _, [] => rfl
  | c, x :: r => by
    show (mulG a b (x * b) r).length + 1 = r.length + 1 + 1
    rw [mulG_len]
theorem mulN_len {a b : Int} {xs : List Int} : ∀ {n : Nat}, (mulN a b n xs).length = xs.length + n
  | 0 => rfl
  | n + 1 => by
    show (mulG a b 0 (mulN a b n xs)).length = _
    rw [mulG_len, mulN_len]; rfl

theorem mulG_comm {a b c d : Int} : ∀ {xs : List Int} {e f e' f' : Int}, e + f * a = e' + f' * c → f * b = f' * d → mulG a b e (mulG c d f xs) = mulG c d e' (mulG a b f' xs)
  | [], e, f, e', f', h1, h2 => by
    show [e + f * a, f * b] = [e' + f' * c, f' * d]
    rw [h1, h2]
  | x :: r, e, f, e', f', h1, h2 => by
    show (e + (f + x * c) * a) :: mulG a b ((f + x * c) * b) (mulG c d (x * d) r) = (e' + (f' + x * a) * c) :: mulG c d ((f' + x * a) * d) (mulG a b (x * b) r)
    have i1 : e + (f + x * c) * a = e' + (f' + x * a) * c := by grind
    have i2 : (f + x * c) * b + x * d * a = (f' + x * a) * d + x * b * c := by grind
    have i3 : x * d * b = x * b * d := by grind
    rw [i1, mulG_comm i2 i3]
theorem mulG_mulN {a b c d : Int} {xs : List Int} : ∀ {n : Nat}, mulG a b 0 (mulN c d n xs) = mulN c d n (mulG a b 0 xs)
  | 0 => rfl
  | n + 1 => by
    show mulG a b 0 (mulG c d 0 (mulN c d n xs)) = mulG c d 0 (mulN c d n (mulG a b 0 xs))
    rw [← mulG_mulN (n := n)]
    exact mulG_comm (by grind) (by grind)
theorem mulN_mulN {a b c d : Int} {xs : List Int} {m : Nat} : ∀ {n : Nat}, mulN a b n (mulN c d m xs) = mulN c d m (mulN a b n xs)
  | 0 => rfl
  | n + 1 => by
    show mulG a b 0 (mulN a b n (mulN c d m xs)) = mulN c d m (mulG a b 0 (mulN a b n xs))
    rw [mulN_mulN (n := n), mulG_mulN]
theorem mulN_in {a b : Int} {xs : List Int} : ∀ {n : Nat}, mulN a b (n + 1) xs = mulN a b n (mulG a b 0 xs)
  | 0 => rfl
  | n + 1 => by
    show mulG a b 0 (mulN a b (n + 1) xs) = mulG a b 0 (mulN a b n (mulG a b 0 xs))
    rw [mulN_in (n := n)]

theorem addL_len {xs ys : List Int} (h : xs.length = ys.length) : (addL xs ys).length = xs.length := by
  unfold addL; rw [List.length_zipWith, h, Nat.min_self]
theorem mulG_add {a b : Int} : ∀ {xs ys : List Int} {c d : Int}, xs.length = ys.length → mulG a b (c + d) (addL xs ys) = addL (mulG a b c xs) (mulG a b d ys)
  | [], [], _, _, _ => rfl
  | x :: r, y :: t, c, d, h => by
    show ((c + d) + (x + y) * a) :: mulG a b ((x + y) * b) (addL r t) = ((c + x * a) + (d + y * a)) :: addL (mulG a b (x * b) r) (mulG a b (y * b) t)
    have i1 : (c + d) + (x + y) * a = (c + x * a) + (d + y * a) := by grind
    have i2 : (x + y) * b = x * b + y * b := by grind
    rw [i1, i2, mulG_add (Nat.succ.inj h)]
theorem mulG_smul {a b t : Int} : ∀ {xs : List Int} {c : Int}, mulG a b (t * c) (smul t xs) = smul t (mulG a b c xs)
  | [], _ => rfl
  | x :: r, c => by
    show (t * c + t * x * a) :: mulG a b (t * x * b) (smul t r) = (t * (c + x * a)) :: smul t (mulG a b (x * b) r)
    have i1 : t * c + t * x * a = t * (c + x * a) := by grind
    have i2 : t * x * b = t * (x * b) := by grind
    rw [i1, i2, mulG_smul]
theorem mulN_add {a b : Int} {xs ys : List Int} (h : xs.length = ys.length) : ∀ {n : Nat}, mulN a b n (addL xs ys) = addL (mulN a b n xs) (mulN a b n ys)
  | 0 => rfl
  | n + 1 => by
    show mulG a b 0 (mulN a b n (addL xs ys)) = _
    rw [mulN_add h (n := n), show (0 : Int) = 0 + 0 from rfl, mulG_add (by rw [mulN_len, mulN_len, h])]
    rfl
theorem mulN_smul {a b t : Int} {xs : List Int} : ∀ {n : Nat}, mulN a b n (smul t xs) = smul t (mulN a b n xs)
  | 0 => rfl
  | n + 1 => by
    show mulG a b 0 (mulN a b n (smul t xs)) = _
    rw [mulN_smul (n := n), show (0 : Int) = t * 0 from (Int.mul_zero t).symm, mulG_smul]
    rfl
theorem mulG_zeros {a b : Int} : ∀ {n : Nat}, mulG a b 0 (zeros n) = zeros (n + 1)
  | 0 => rfl
  | n + 1 => by
    show (0 + 0 * a) :: mulG a b (0 * b) (zeros n) = 0 :: zeros (n + 1)
    rw [Int.zero_mul, Int.zero_mul, mulG_zeros]; rfl
theorem mulN_nil {a b : Int} : ∀ {n : Nat}, mulN a b n [] = zeros n
  | 0 => rfl
  | n + 1 => by
    show mulG a b 0 (mulN a b n []) = _
    rw [mulN_nil, mulG_zeros]
theorem addL_comm {xs ys : List Int} : addL xs ys = addL ys xs := by
  unfold addL; rw [List.zipWith_comm]; congr 1; funext x y; exact Int.add_comm _ _
theorem addL_assoc : ∀ {xs ys zs : List Int}, addL (addL xs ys) zs = addL xs (addL ys zs)
  | [], _, _ => by simp [addL]
  | _ :: _, [], _ => by simp [addL]
  | _ :: _, _ :: _, [] => by simp [addL]
  | x :: r, y :: t, z :: u => by
    show ((x + y) + z) :: addL (addL r t) u = (x + (y + z)) :: addL r (addL t u)
    rw [addL_assoc, Int.add_assoc]
theorem zeros_add : ∀ {xs : List Int}, addL (zeros xs.length) xs = xs
  | [] => rfl
  | x :: r => by
    show (0 + x) :: addL (zeros r.length) r = x :: r
    rw [zeros_add, Int.zero_add]

/-- the row seen from the stretch, from its high end -/
noncomputable def hs (b e s : Int) : List Int → List Int
  | [] => []
  | c :: r => addL (mulG b e 0 (hs b e s r)) (smul c (mulN s s r.length [1]))
theorem hs_len {b e s : Int} : ∀ {r : List Int}, (hs b e s r).length = r.length
  | [] => rfl
  | c :: r => by
    show (addL _ _).length = r.length + 1
    rw [addL_len, mulG_len, hs_len]
    rw [mulG_len, hs_len]; unfold smul; rw [List.length_map, mulN_len]; exact Nat.add_comm _ _
/-- the row seen term by term -/
noncomputable def ls (b e s : Int) : Nat → List Int → List Int
  | k, [] => zeros k
  | k, c :: r => addL (mulN s s r.length (mulN b e k [c])) (ls b e s (k + 1) r)
theorem ls_hs {b e s : Int} : ∀ {r : List Int} {k : Nat}, ls b e s k r = mulN b e k (hs b e s r)
  | [], _ => mulN_nil.symm
  | c :: r, k => by
    show addL (mulN s s r.length (mulN b e k [c])) (ls b e s (k + 1) r) = mulN b e k (addL (mulG b e 0 (hs b e s r)) (smul c (mulN s s r.length [1])))
    rw [mulN_add (by rw [mulG_len, hs_len]; unfold smul; rw [List.length_map, mulN_len]; exact Nat.add_comm _ _), ls_hs, ← mulN_in, mulN_smul, mulN_mulN, addL_comm, ← mulN_smul, ← mulN_smul]
    show _ = addL _ (mulN b e k (mulN s s r.length [c * 1]))
    rw [Int.mul_one]
theorem ls_eq {b e s : Int} {r : List Int} : ls b e s 0 r = hs b e s r := ls_hs

/-- how often the sign turns -/
noncomputable def tv : Int → List Int → Int
  | _, [] => 0
  | l, x :: r => (if l * x < 0 then 1 else 0) + tv (if x = 0 then l else x) r
end Mine

set_option autoImplicit false
set_option linter.unusedVariables false
set_option linter.unusedSimpArgs false
set_option maxRecDepth 100000
namespace Mine
open PySem

noncomputable def cellI (ns : List Int) (k : Nat) : Int := ns.getD k 0

section
variable {sub : Nat → Nat → Bool} {P : List Fn} {f n : Nat} {H : Hp} {Q : V → Hp → Prop} {X : Nat → Hp → Prop}

theorem callN_mk {d : Fn} {vs : List V} (e : P[f]? = some d) (hl : vs.length = d.np) (h : wpS sub (callN sub P n) (fun m => H.length ≤ m) d.body (startLoc d.np d.nv vs) H (fun _ H' => Q .none H') Q X) : callN sub P (n + 1) f vs H Q X := ⟨d, e, hl, h⟩

noncomputable def bCell : PS := .seq (.ite (.cmp .lt (.var 1) (.bi .len (.cons (.var 0) .nil))) (.seq (.ret (.idx (.var 0) (.var 1))) .skip) .skip) (.seq (.ret (.cint 0)) .skip)
theorem s_cell (e : P[f]? = some ⟨2, 2, bCell⟩) {m : Nat} {ns : List Int} {k : Int} (hk : 0 ≤ k) (hH : H[m]? = some (ns.map .int)) (hQ : Q (.int (cellI ns k.toNat)) H) : callN sub P (n + 1) f [.lst m, .int k] H Q X := by
  refine callN_mk e rfl ?_
  dsimp only [bCell, qS1, qS2, qS3, qS4, qS5, qS6, qS7, qS8, qS9, qS10, qS11, qS12, qS13, qS14, qS15, qS16, qS17, qS18, qE1, qE2, qE3, qE4, qE5, qE6, qE7, qE8, qE9, qE10, qE11, qE12, qE13, qE14, qE15, qE16, qE17, qE18, qE19, qE20, qE21, qE22, qEs1, qEs2, wpAll, qO1, qO2, qI1, qI2, qI3, w_add, w_addl, w_sub, w_mul, w_mull, w_fdiv, w_mod, w_pow, w_lt, w_le, w_gt, w_ge, w_eq, w_ne, w_eqt, w_eql, w_net, w_nel, w_isn, w_ist, w_isi, w_isl, w_abs, w_lent, w_lenl, w_intb, w_list, w_tuple, w_min, w_idxt0, w_idxt1, w_idxu0, w_idxu1, w_idxu2, w_idxl, w_slcl, w_slct, w_tb, w_ti, w_tn, w_tt, w_tl, w_itt, w_itl, w_bindT1, w_bindT2, w_srcl, w_srct, w_cut2, w_cut1, w_cut1', w_cut0, w_ty1, w_ty2, w_ty3, w_ty4, w_ty5, w_ty6, w_ty7, w_ty8, w_ty9, w_ty10, w_ty11, w_ty12, w_ty13, w_ty14, w_ty15, w_ty16, w_ty17, w_ty18, w_ty19, w_ty20, w_ty21, w_mapc, w_mapn, w_appc, w_appn, w_repc, w_repn, w_start, w_lenc, w_ifT, w_ifF, w_ifFF, w_ifTF, w_nT, w_nF, w_anyT, w_anyF, w_d22, ifSome_some, ifLst_lst, ifTup_tup, ifInt_int, lget, lset, lsets, Nat.reduceSub, Nat.reduceAdd, List.length_nil, ↓reduceIte]
  refine ifSome.mk hH ?_
  rw [List.length_map]
  by_cases h : k < ns.length
  · rw [if_pos (decide_eq_true h)]
    have hl : k.toNat < ns.length := (Int.toNat_lt hk).mpr h
    refine ifSome.mk hH (ifSome.mk (v := k.toNat) ?_ (ifSome.mk (v := .int ns[k.toNat]) ?_ ?_))
    · rw [List.length_map, place, if_pos hk, if_pos h]
    · rw [List.getElem?_map, List.getElem?_eq_getElem hl]; rfl
    · rw [cellI, List.getD_eq_getElem?_getD, List.getElem?_eq_getElem hl] at hQ; exact hQ
  · rw [if_neg (by rw [decide_eq_true_eq]; exact h)]
    rw [cellI, List.getD_eq_getElem?_getD, List.getElem?_eq_none ((Int.le_toNat hk).mpr (Int.not_lt.mp h))] at hQ
    exact hQ

noncomputable def lDiv : PS := .seq (.assign 2 (.bin .mod (.var 0) (.var 1))) (.seq (.assign 0 (.var 1)) (.seq (.assign 1 (.var 2)) .skip))
noncomputable def bDiv : PS := .seq (.whl (.cmp .ne (.var 1) (.cint 0)) lDiv) (.seq (.ret (.bi .abs (.cons (.var 0) .nil))) .skip)
noncomputable def natAt (ρ : Loc) (i : Nat) : Nat := match lget ρ i with | some (.int y) => y.natAbs | _ => 0
theorem s_div (e : P[f]? = some ⟨2, 3, bDiv⟩) {a b : Int} (hQ : Q (.int (a.gcd b : Nat)) H) : callN sub P (n + 1) f [.int a, .int b] H Q X := by
  refine callN_mk e rfl ?_
  dsimp only [bDiv, qS1, qS2, qS3, qS4, qS5, qS6, qS7, qS8, qS9, qS10, qS11, qS12, qS13, qS14, qS15, qS16, qS17, qS18, qE1, qE2, qE3, qE4, qE5, qE6, qE7, qE8, qE9, qE10, qE11, qE12, qE13, qE14, qE15, qE16, qE17, qE18, qE19, qE20, qE21, qE22, qEs1, qEs2, wpAll, qO1, qO2, qI1, qI2, qI3, w_add, w_addl, w_sub, w_mul, w_mull, w_fdiv, w_mod, w_pow, w_lt, w_le, w_gt, w_ge, w_eq, w_ne, w_eqt, w_eql, w_net, w_nel, w_isn, w_ist, w_isi, w_isl, w_abs, w_lent, w_lenl, w_intb, w_list, w_tuple, w_min, w_idxt0, w_idxt1, w_idxu0, w_idxu1, w_idxu2, w_idxl, w_slcl, w_slct, w_tb, w_ti, w_tn, w_tt, w_tl, w_itt, w_itl, w_bindT1, w_bindT2, w_srcl, w_srct, w_cut2, w_cut1, w_cut1', w_cut0, w_ty1, w_ty2, w_ty3, w_ty4, w_ty5, w_ty6, w_ty7, w_ty8, w_ty9, w_ty10, w_ty11, w_ty12, w_ty13, w_ty14, w_ty15, w_ty16, w_ty17, w_ty18, w_ty19, w_ty20, w_ty21, w_mapc, w_mapn, w_appc, w_appn, w_repc, w_repn, w_start, w_lenc, w_ifT, w_ifF, w_ifFF, w_ifTF, w_nT, w_nF, w_anyT, w_anyF, w_d22, ifSome_some, ifLst_lst, ifTup_tup, ifInt_int, lget, lset, lsets, Nat.reduceSub, Nat.reduceAdd, List.length_nil, ↓reduceIte]
  refine ⟨fun ρ H' => ∃ x y o, ρ = [some (.int x), some (.int y), o] ∧ H' = H ∧ x.gcd y = a.gcd b, fun ρ _ => natAt ρ 1, ⟨a, b, _, rfl, rfl, rfl⟩, ?_⟩
  rintro ρ H' ⟨x, y, o, rfl, rfl, hg⟩
  dsimp only [lDiv, qS1, qS2, qS3, qS4, qS5, qS6, qS7, qS8, qS9, qS10, qS11, qS12, qS13, qS14, qS15, qS16, qS17, qS18, qE1, qE2, qE3, qE4, qE5, qE6, qE7, qE8, qE9, qE10, qE11, qE12, qE13, qE14, qE15, qE16, qE17, qE18, qE19, qE20, qE21, qE22, qEs1, qEs2, wpAll, qO1, qO2, qI1, qI2, qI3, w_add, w_addl, w_sub, w_mul, w_mull, w_fdiv, w_mod, w_pow, w_lt, w_le, w_gt, w_ge, w_eq, w_ne, w_eqt, w_eql, w_net, w_nel, w_isn, w_ist, w_isi, w_isl, w_abs, w_lent, w_lenl, w_intb, w_list, w_tuple, w_min, w_idxt0, w_idxt1, w_idxu0, w_idxu1, w_idxu2, w_idxl, w_slcl, w_slct, w_tb, w_ti, w_tn, w_tt, w_tl, w_itt, w_itl, w_bindT1, w_bindT2, w_srcl, w_srct, w_cut2, w_cut1, w_cut1', w_cut0, w_ty1, w_ty2, w_ty3, w_ty4, w_ty5, w_ty6, w_ty7, w_ty8, w_ty9, w_ty10, w_ty11, w_ty12, w_ty13, w_ty14, w_ty15, w_ty16, w_ty17, w_ty18, w_ty19, w_ty20, w_ty21, w_mapc, w_mapn, w_appc, w_appn, w_repc, w_repn, w_start, w_lenc, w_ifT, w_ifF, w_ifFF, w_ifTF, w_nT, w_nF, w_anyT, w_anyF, w_d22, ifSome_some, ifLst_lst, ifTup_tup, ifInt_int, lget, lset, lsets, Nat.reduceSub, Nat.reduceAdd, List.length_nil, ↓reduceIte]
  by_cases hy : y = 0
  · subst hy
    have : (if x < 0 then -x else x) = ((a.gcd b : Nat) : Int) := by
      rw [← hg, Int.gcd_zero_right]
      split <;> omega
    show Q (.int (if x < 0 then -x else x)) _
    rw [this]; exact hQ
  · rw [decide_eq_false hy]
    exact ⟨hy, ⟨y, x.fmod y, _, rfl, rfl, by rw [gcd_fmod]; exact hg⟩, fmod_natAbs_lt hy⟩

noncomputable def bWhole : PS := .seq (.ret (.and (.cons (.isi (.var 0) [.int]) (.cons (.nt (.isi (.var 0) [.bool])) .nil)))) .skip
theorem s_whole (e : P[f]? = some ⟨1, 1, bWhole⟩) {x : Int} (hQ : Q (.bool true) H) : callN sub P (n + 1) f [.int x] H Q X :=
  callN_mk e rfl hQ

noncomputable def bPart (dv : Nat) : PS := .seq (.assign 2 (.call dv (.cons (.var 0) (.cons (.var 1) .nil)))) (.seq (.ite (.cmp .lt (.var 1) (.cint 0)) (.seq (.assign 2 (.bin .sub (.cint 0) (.var 2))) .skip) .skip)
  (.seq (.ret (.tup (.cons (.bin .fdiv (.var 0) (.var 2)) (.cons (.bin .fdiv (.var 1) (.var 2)) .nil)))) .skip))
theorem s_part {dv : Nat} (e : P[f]? = some ⟨2, 3, bPart dv⟩) (ed : P[dv]? = some ⟨2, 3, bDiv⟩) {a b : Int} (hb : 0 < b) (hs : Sm 1000 b)
    (hQ : ∀ p q : Int, p * (a.gcd b : Nat) = a → q * (a.gcd b : Nat) = b → Q (.tup [.int p, .int q]) H) : callN sub P (n + 2) f [.int a, .int b] H Q X := by
  refine callN_mk e rfl ?_
  dsimp only [bPart, qS1, qS2, qS3, qS4, qS5, qS6, qS7, qS8, qS9, qS10, qS11, qS12, qS13, qS14, qS15, qS16, qS17, qS18, qE1, qE2, qE3, qE4, qE5, qE6, qE7, qE8, qE9, qE10, qE11, qE12, qE13, qE14, qE15, qE16, qE17, qE18, qE19, qE20, qE21, qE22, qEs1, qEs2, wpAll, qO1, qO2, qI1, qI2, qI3, w_add, w_addl, w_sub, w_mul, w_mull, w_fdiv, w_mod, w_pow, w_lt, w_le, w_gt, w_ge, w_eq, w_ne, w_eqt, w_eql, w_net, w_nel, w_isn, w_ist, w_isi, w_isl, w_abs, w_lent, w_lenl, w_intb, w_list, w_tuple, w_min, w_idxt0, w_idxt1, w_idxu0, w_idxu1, w_idxu2, w_idxl, w_slcl, w_slct, w_tb, w_ti, w_tn, w_tt, w_tl, w_itt, w_itl, w_bindT1, w_bindT2, w_srcl, w_srct, w_cut2, w_cut1, w_cut1', w_cut0, w_ty1, w_ty2, w_ty3, w_ty4, w_ty5, w_ty6, w_ty7, w_ty8, w_ty9, w_ty10, w_ty11, w_ty12, w_ty13, w_ty14, w_ty15, w_ty16, w_ty17, w_ty18, w_ty19, w_ty20, w_ty21, w_mapc, w_mapn, w_appc, w_appn, w_repc, w_repn, w_start, w_lenc, w_ifT, w_ifF, w_ifFF, w_ifTF, w_nT, w_nF, w_anyT, w_anyF, w_d22, ifSome_some, ifLst_lst, ifTup_tup, ifInt_int, lget, lset, lsets, Nat.reduceSub, Nat.reduceAdd, List.length_nil, ↓reduceIte]
  refine s_div ed ?_
  have hnb : ¬ b < 0 := Int.not_lt.mpr (Int.le_of_lt hb)
  rw [decide_eq_false hnb]
  have h0 : 0 < a.gcd b := Int.gcd_pos_of_ne_zero_right a (Int.ne_of_gt hb)
  have hd1 : ((a.gcd b : Nat) : Int) ∣ a := Int.gcd_dvd_left a b
  have hd2 : ((a.gcd b : Nat) : Int) ∣ b := Int.gcd_dvd_right a b
  have hle : a.gcd b ≤ b.natAbs := Nat.le_of_dvd (Int.natAbs_pos.mpr (Int.ne_of_gt hb)) (Int.natAbs_dvd_natAbs.mpr hd2)
  have hok : DivOk ((a.gcd b : Nat) : Int) := ⟨Int.natCast_ne_zero.mpr (Nat.ne_of_gt h0), Nat.lt_of_le_of_lt hle (hs.mono (by decide))⟩
  exact ⟨hok, hok, hQ _ _ (Int.fdiv_mul_cancel hd1) (Int.fdiv_mul_cancel hd2)⟩
end
end Mine

set_option autoImplicit false
set_option linter.unusedVariables false
set_option linter.unusedSimpArgs false
set_option maxRecDepth 100000
namespace Mine
open PySem

theorem w_idxg {x : V} {k : Int} {H : Hp} {Q : V → Hp → Prop} : idxWp x (.int k) H Q = ifSome (items H x) fun xs => ifSome (place xs.length k) fun i => ifSome xs[i]? fun v => Q v H := rfl
theorem w_leng {x : V} {H : Hp} {Q : V → Hp → Prop} : biWp .len [x] H Q = ifSome (items H x) fun xs => Q (.int xs.length) H := rfl
theorem place_nat {n k : Nat} (h : k < n) : place n (k : Int) = some k := by
  rw [place, if_pos (Int.natCast_nonneg k), if_pos (Int.ofNat_lt.mpr h)]; rfl
theorem place_last {n : Nat} (h : 1 ≤ n) : place n (-1) = some (n - 1) := by
  rw [place, if_neg (by decide), if_pos (by omega)]; congr 1; omega
theorem setApp1 {β : Type} (H : List β) (x y z : β) (K : List β) : (H ++ x :: y :: K).set (H.length + 1) z = H ++ x :: z :: K := by
  rw [List.set_append_right _ _ (by omega)]; simp
theorem itemsKeep {H H' : Hp} {v : V} {xs : List V} (h : H <+: H') (e : items H v = some xs) : items H' v = some xs := by
  cases v <;> first | exact e | exact getKeep h e
theorem range'_len {k : Nat} {β : Type} {x : β} {r : List β} : List.range' k (x :: r).length = k :: List.range' (k + 1) r.length := List.range'_succ ..

theorem compGo_map {g : V → V} {step : V → Hp → (Option V → Hp → Prop) → Prop} {H : Hp} : ∀ {xs : List V} {Q : List V → Hp → Prop}, (∀ x ∈ xs, ∀ k : Option V → Hp → Prop, k (some (g x)) H → step x H k) → Q (xs.map g) H → compGo step xs H Q
  | [], _, _, h => h
  | x :: xs, Q, hs, h => hs x List.mem_cons_self _ (compGo_map (g := g) (fun y hy => hs y (List.mem_cons_of_mem _ hy)) h)
theorem compGo_rng {g : Nat → V} {step : V → Hp → (Option V → Hp → Prop) → Prop} {H : Hp} : ∀ {n a : Nat} {Q : List V → Hp → Prop}, (∀ i, i < a + n → ∀ k : Option V → Hp → Prop, k (some (g i)) H → step (.int (i : Int)) H k) → Q ((List.range' a n).map g) H → compGo step ((List.range' a n).map fun (i : Nat) => V.int (i : Int)) H Q
  | 0, _, _, _, h => h
  | n + 1, a, Q, hs, h => hs a (by omega) _ (compGo_rng (g := g) (fun i hi => hs i (by omega)) h)
theorem zip_range {xs ys : List Int} {f : Int → Int → Int} (h : xs.length = ys.length) : ((List.range' 0 xs.length).map fun i => V.int (f (xs.getD i 0) (ys.getD i 0))) = (List.zipWith f xs ys).map V.int := by
  apply List.ext_getElem
  · simp [h]
  · intro i h1 h2
    simp at h1 h2
    have h3 : i < ys.length := by omega
    simp [h1, h3]

/-! bounds -/
noncomputable def AllSm (k : Nat) (xs : List Int) : Prop := ∀ x ∈ xs, Sm k x
theorem AllSm.mono {k l : Nat} {xs : List Int} (h : AllSm k xs) (hl : k ≤ l) : AllSm l xs := fun x hx => (h x hx).mono hl
theorem AllSm.cons {k : Nat} {x : Int} {xs : List Int} (h : Sm k x) (h' : AllSm k xs) : AllSm k (x :: xs) := fun y hy => by
  cases hy with
  | head => exact h
  | tail _ hy => exact h' y hy
theorem AllSm.hd {k : Nat} {x : Int} {xs : List Int} (h : AllSm k (x :: xs)) : Sm k x := h x List.mem_cons_self
theorem AllSm.tl {k : Nat} {x : Int} {xs : List Int} (h : AllSm k (x :: xs)) : AllSm k xs := fun y hy => h y (List.mem_cons_of_mem _ hy)
theorem AllSm.nil {k : Nat} : AllSm k [] := fun _ h => nomatch h
theorem AllSm.mulG {k l : Nat} {a b : Int} (ha : Sm l a) (hb : Sm l b) : ∀ {xs : List Int} {c : Int}, AllSm k xs → Sm (k + l) c → AllSm (k + l + 1) (Mine.mulG a b c xs)
  | [], c, _, hc => .cons (hc.mono (Nat.le_succ _)) .nil
  | x :: r, c, h, hc => .cons (hc.add (h.hd.mul ha)) (AllSm.mulG ha hb h.tl (h.hd.mul hb))
theorem Sm.zero {k : Nat} : Sm k 0 := Nat.two_pow_pos k
theorem AllSm.mulG0 {k l : Nat} {a b : Int} (ha : Sm l a) (hb : Sm l b) {xs : List Int} (h : AllSm k xs) : AllSm (k + l + 1) (Mine.mulG a b 0 xs) := h.mulG ha hb .zero
theorem AllSm.mulN {k l : Nat} {a b : Int} (ha : Sm l a) (hb : Sm l b) {xs : List Int} (h : AllSm k xs) : ∀ {n : Nat}, AllSm (k + n * (l + 1)) (Mine.mulN a b n xs)
  | 0 => h.mono (Nat.le_add_right _ _)
  | n + 1 => ((AllSm.mulN ha hb h (n := n)).mulG0 ha hb).mono (by rw [Nat.succ_mul]; omega)
theorem AllSm.addL {k : Nat} : ∀ {xs ys : List Int}, AllSm k xs → AllSm k ys → AllSm (k + 1) (Mine.addL xs ys)
  | [], _, _, _ => fun _ h => nomatch h
  | _ :: _, [], _, _ => fun _ h => nomatch h
  | _ :: _, _ :: _, h1, h2 => .cons (h1.hd.add h2.hd) (AllSm.addL h1.tl h2.tl)
theorem AllSm.smul {k l : Nat} {c : Int} {xs : List Int} (hc : Sm l c) (h : AllSm k xs) : AllSm (l + k) (Mine.smul c xs) := fun x hx => by
  obtain ⟨y, hy, rfl⟩ := List.mem_map.mp hx
  exact hc.mul (h y hy)
theorem Sm.one {k : Nat} : Sm (k + 1) 1 := Nat.lt_of_lt_of_le (show (1 : Int).natAbs < 2 ^ 1 by decide) (Nat.pow_le_pow_right (by decide) (Nat.le_add_left 1 k))
theorem AllSm.pow1 {l : Nat} {s : Int} (hs : Sm l s) {n : Nat} : AllSm (1 + n * (l + 1)) (Mine.mulN s s n [1]) := AllSm.mulN hs hs (.cons Sm.one .nil)
theorem AllSm.hs {k l : Nat} {b e s : Int} (hb : Sm l b) (he : Sm l e) (hs : Sm l s) : ∀ {r : List Int}, AllSm k r → AllSm (k + 2 + r.length * (l + 2)) (Mine.hs b e s r)
  | [], _ => .nil
  | c :: r, h => by
    have h1 := (AllSm.hs hb he hs h.tl).mulG0 hb he
    have h2 := AllSm.smul h.hd (AllSm.pow1 hs (n := r.length))
    have hm : r.length * (l + 1) ≤ r.length * (l + 2) := Nat.mul_le_mul_left _ (Nat.le_succ _)
    refine AllSm.mono (AllSm.addL h1 (h2.mono ?_)) ?_
    · omega
    · rw [List.length_cons, Nat.succ_mul]; omega

section
variable {sub : Nat → Nat → Bool} {P : List Fn} {f n : Nat} {H : Hp} {Q : V → Hp → Prop} {X : Nat → Hp → Prop}

noncomputable def lMul : PS := (.seq (.setidx 3 (.var 4) (.bin .add (.idx (.var 3) (.var 4)) (.bin .mul (.idx (.var 0) (.var 4)) (.var 1))))
 (.seq (.setidx 3 (.bin .add (.var 4) (.cint 1)) (.bin .add (.idx (.var 3) (.bin .add (.var 4) (.cint 1))) (.bin .mul (.idx (.var 0) (.var 4)) (.var 2))))
 .skip))
noncomputable def bMul : PS := (.seq (.assign 3 (.bin .mul (.lst (.cons (.cint 0) .nil)) (.bin .add (.bi .len (.cons (.var 0) .nil)) (.cint 1))))
 (.seq (.forr 4 (.rng (.cons (.bi .len (.cons (.var 0) .nil)) .nil)) lMul)
 (.seq (.ret (.var 3)) .skip)))
theorem s_mul (e : P[f]? = some ⟨3, 5, bMul⟩) {v : V} {row : List Int} {a b : Int} (hv : items H v = some (row.map .int)) (hl : row.length ≤ 1000) (hb : ∀ x ∈ row, IntMulOk x a ∧ IntMulOk x b)
    (hQ : ∀ H' k, H <+: H' → H'[k]? = some ((mulG a b 0 row).map .int) → Q (.lst k) H') : callN sub P (n + 1) f [v, .int a, .int b] H Q X := by
  refine callN_mk e rfl ?_
  dsimp only [bMul, qS1, qS2, qS3, qS4, qS5, qS6, qS7, qS8, qS9, qS10, qS11, qS12, qS13, qS14, qS15, qS16, qS17, qS18, qE1, qE2, qE3, qE4, qE5, qE6, qE7, qE8, qE9, qE10, qE11, qE12, qE13, qE14, qE15, qE16, qE17, qE18, qE19, qE20, qE21, qE22, qEs1, qEs2, wpAll, qO1, qO2, qI1, qI2, qI3, w_add, w_addl, w_sub, w_mul, w_mull, w_fdiv, w_mod, w_pow, w_lt, w_le, w_gt, w_ge, w_eq, w_ne, w_eqt, w_eql, w_net, w_nel, w_isn, w_ist, w_isi, w_isl, w_abs, w_lent, w_lenl, w_intb, w_list, w_tuple, w_min, w_idxt0, w_idxt1, w_idxu0, w_idxu1, w_idxu2, w_idxl, w_slcl, w_slct, w_tb, w_ti, w_tn, w_tt, w_tl, w_itt, w_itl, w_bindT1, w_bindT2, w_srcl, w_srct, w_cut2, w_cut1, w_cut1', w_cut0, w_ty1, w_ty2, w_ty3, w_ty4, w_ty5, w_ty6, w_ty7, w_ty8, w_ty9, w_ty10, w_ty11, w_ty12, w_ty13, w_ty14, w_ty15, w_ty16, w_ty17, w_ty18, w_ty19, w_ty20, w_ty21, w_mapc, w_mapn, w_appc, w_appn, w_repc, w_repn, w_start, w_lenc, w_ifT, w_ifF, w_ifFF, w_ifTF, w_nT, w_nF, w_anyT, w_anyF, w_d22, ifSome_some, ifLst_lst, ifTup_tup, ifInt_int, lget, lset, lsets, Nat.reduceSub, Nat.reduceAdd, List.length_nil, ↓reduceIte]
  refine ifSome.mk (itemsKeep (preApp _ _) hv) ?_
  rw [List.length_map]
  refine ⟨.int 0, getApp _ _ _, by omega, by unfold lim; omega, ?_⟩
  refine ifSome.mk (itemsKeep (preTrans (preApp _ _) (preApp _ _)) hv) ?_
  refine rng1 (smallI_of (by rw [List.length_map]; omega) (by rw [List.length_map]; omega)) ?_
  have eH : H ++ [[V.int 0]] ++ [List.replicate ((row.length : Int) + 1).toNat (V.int 0)] = H ++ [V.int 0] :: (List.replicate (row.length + 1) (V.int 0)) :: [] := by
    rw [List.append_assoc, show ((row.length : Int) + 1).toNat = row.length + 1 by omega]; rfl
  have eL : (H ++ [[V.int 0]]).length = H.length + 1 := by simp
  rw [eH, eL, List.length_map, Int.toNat_natCast]
  refine forGo_rule (fun rest ρ H' => ∃ dn td pre c o, row = dn ++ td ∧ rest = (List.range' dn.length td.length).map (fun (i : Nat) => V.int (i : Int)) ∧ ρ = [some v, some (.int a), some (.int b), some (.lst (H.length + 1)), o] ∧
    H' = H ++ [V.int 0] :: ((pre : List Int).map V.int ++ V.int c :: List.replicate td.length (V.int 0)) :: [] ∧ pre.length = dn.length ∧ pre ++ mulG a b c td = mulG a b 0 row) ?_ ?_ _ _ _ ⟨[], row, [], 0, _, rfl, rfl, rfl, rfl, rfl, rfl⟩
  · rintro x xs ρ H' k ⟨dn, td, pre, c, o, hr, hx, rfl, rfl, hp, hm⟩ hk
    cases td with
    | nil => cases hx
    | cons y td =>
      rw [range'_len] at hx
      cases hx
      have hv' : ∀ l : List V, items (H ++ [V.int 0] :: l :: []) v = some (row.map .int) := fun l => itemsKeep (preApp _ _) hv
      have hy : (row.map V.int)[dn.length]? = some (.int y) := by rw [hr, List.map_append, List.map_cons]; have := getApp (dn.map V.int) (V.int y) (td.map V.int); rwa [List.length_map] at this
      have hdl : dn.length < (row.map V.int).length := by rw [hr]; simp
      have hmy := hb y (by rw [hr]; simp)
      have hpl : (pre.map V.int).length = dn.length := by rw [List.length_map, hp]
      dsimp only [lMul, qS1, qS2, qS3, qS4, qS5, qS6, qS7, qS8, qS9, qS10, qS11, qS12, qS13, qS14, qS15, qS16, qS17, qS18, qE1, qE2, qE3, qE4, qE5, qE6, qE7, qE8, qE9, qE10, qE11, qE12, qE13, qE14, qE15, qE16, qE17, qE18, qE19, qE20, qE21, qE22, qEs1, qEs2, wpAll, qO1, qO2, qI1, qI2, qI3, w_add, w_addl, w_sub, w_mul, w_mull, w_fdiv, w_mod, w_pow, w_lt, w_le, w_gt, w_ge, w_eq, w_ne, w_eqt, w_eql, w_net, w_nel, w_isn, w_ist, w_isi, w_isl, w_abs, w_lent, w_lenl, w_intb, w_list, w_tuple, w_min, w_idxt0, w_idxt1, w_idxu0, w_idxu1, w_idxu2, w_idxl, w_slcl, w_slct, w_tb, w_ti, w_tn, w_tt, w_tl, w_itt, w_itl, w_bindT1, w_bindT2, w_srcl, w_srct, w_cut2, w_cut1, w_cut1', w_cut0, w_ty1, w_ty2, w_ty3, w_ty4, w_ty5, w_ty6, w_ty7, w_ty8, w_ty9, w_ty10, w_ty11, w_ty12, w_ty13, w_ty14, w_ty15, w_ty16, w_ty17, w_ty18, w_ty19, w_ty20, w_ty21, w_mapc, w_mapn, w_appc, w_appn, w_repc, w_repn, w_start, w_lenc, w_ifT, w_ifF, w_ifFF, w_ifTF, w_nT, w_nF, w_anyT, w_anyF, w_d22, ifSome_some, ifLst_lst, ifTup_tup, ifInt_int, lget, lset, lsets, Nat.reduceSub, Nat.reduceAdd, List.length_nil, ↓reduceIte, w_idxg, List.length_cons, List.replicate_succ]
      refine ifSome.mk (getApp1 _ _ _ _) (ifSome.mk (place_nat (k := dn.length) (by simp; omega)) (ifSome.mk (v := .int c) (by rw [← hpl]; exact getApp _ _ _) ?_))
      refine ifSome.mk (hv' _) (ifSome.mk (place_nat (k := dn.length) hdl) (ifSome.mk hy ⟨hmy.1, ?_⟩))
      refine ⟨⟨Nat.le_succ _, Option.some_ne_none _⟩, ?_⟩
      refine ifSome.mk (getApp1 _ _ _ _) (ifSome.mk (place_nat (k := dn.length) (by simp; omega)) ?_)
      rw [setApp1, ← hpl, setApp]
      refine ifSome.mk (getApp1 _ _ _ _) (ifSome.mk (place_nat (k := (pre.map V.int).length + 1) (by simp)) (ifSome.mk (v := .int 0) (getApp1 _ _ _ _) ?_))
      refine ifSome.mk (hv' _) (ifSome.mk (place_nat (k := (pre.map V.int).length) (by rw [hpl]; exact hdl)) (ifSome.mk (v := .int y) (by rw [hpl]; exact hy) ⟨hmy.2, ?_⟩))
      refine ⟨⟨Nat.le_succ _, Option.some_ne_none _⟩, ?_⟩
      refine ifSome.mk (getApp1 _ _ _ _) (ifSome.mk (place_nat (k := (pre.map V.int).length + 1) (by simp)) ?_)
      rw [setApp1, setApp1]
      refine hk _ _ ⟨dn ++ [y], td, pre ++ [c + y * a], 0 + y * b, _, by rw [hr]; simp, by rw [List.length_append]; rfl, rfl, by rw [List.map_append, List.append_assoc]; rfl, by rw [List.length_append, List.length_append, hp]; rfl, ?_⟩
      rw [Int.zero_add, List.append_assoc]; exact hm
  · rintro ρ H' ⟨dn, td, pre, c, o, hr, hx, rfl, rfl, hp, hm⟩
    cases td with
    | cons y td => rw [range'_len] at hx; cases hx
    | nil =>
      refine hQ _ _ (preApp _ _) ?_
      rw [getApp1, ← hm]
      simp [mulG]
end
end Mine

set_option autoImplicit false
set_option linter.unusedVariables false
set_option linter.unusedSimpArgs false
set_option maxRecDepth 100000
namespace Mine
open PySem
theorem clamp_pos {n : Nat} {k : Int} (h : 0 ≤ k) : clampAt n k = min k.toNat n := by
  obtain ⟨m, rfl⟩ := Int.eq_ofNat_of_zero_le h
  unfold clampAt
  rw [if_neg (Int.not_lt.mpr h), Int.max_eq_right (Int.le_min.mpr ⟨h, Int.natCast_nonneg n⟩), Int.toNat_natCast]
  rcases Nat.le_total m n with hm | hm
  · rw [Int.min_eq_left (Int.ofNat_le.mpr hm), Nat.min_eq_left hm, Int.toNat_natCast]
  · rw [Int.min_eq_right (Int.ofNat_le.mpr hm), Nat.min_eq_right hm, Int.toNat_natCast]
theorem clamp_last {n : Nat} (h : 1 ≤ n) : clampAt n (-1) = n - 1 := by
  obtain ⟨m, rfl⟩ := Nat.exists_eq_add_of_le h
  unfold clampAt
  rw [if_pos (by decide), show (-1 : Int) + ((1 + m : Nat) : Int) = (m : Int) by omega, Int.min_eq_left (by omega), Int.max_eq_right (Int.natCast_nonneg m), Int.toNat_natCast, Nat.add_sub_cancel_left]
theorem w_slcL {m : Nat} {H : Hp} {Q : V → Hp → Prop} {b : Int} {xs : List V} (h : H[m]? = some xs) (hq : Q (.lst H.length) (H ++ [cut xs 0 (clampAt xs.length b)])) : slcWp (.lst m) none (some (.int b)) H Q := ifSome.mk h hq
/-- x[:-1] -/
theorem slc_front {v : V} {xs : List V} {H : Hp} {Q : V → Hp → Prop} (h : items H v = some xs) (h1 : xs ≠ []) (hq : ∀ v' H', H <+: H' → items H' v' = some xs.dropLast → Q v' H') : slcWp v none (some (.int (-1))) H Q := by
  cases v with
  | tup ys => cases h; exact .inr ⟨rfl, rfl, h1, hq _ _ (List.prefix_refl _) rfl⟩
  | lst m =>
    refine w_slcL h (hq _ _ (preApp _ _) ?_)
    rw [items, getApp, cut, List.drop_zero, List.dropLast_eq_take, clamp_last (List.length_pos_iff.mpr h1)]
  | _ => cases h

section
variable {sub : Nat → Nat → Bool} {P : List Fn} {f n mu : Nat} {H : Hp} {Q : V → Hp → Prop} {X : Nat → Hp → Prop}
noncomputable def eSeen : PE := (.bin .add (.idx (.var 1) (.var 0)) (.bin .mul (.var 2) (.idx (.var 3) (.var 0))))
noncomputable def zSeen : PE := (.comp eSeen 1 [6, 8, 7] (.rng (.cons (.bi .len (.cons (.var 6) .nil)) .nil)) .no)
noncomputable def lSeen (mu : Nat) : PS := (.seq (.assign 7 (.call mu (.cons (.var 7) (.cons (.var 5) (.cons (.var 5) .nil)))))
 (.seq (.assign 6 (.call mu (.cons (.var 6) (.cons (.var 3) (.cons (.var 4) .nil)))))
 (.seq (.assign 6 zSeen)
 .skip)))
noncomputable def bSeen (mu : Nat) : PS := (.seq (.assign 3 (.bin .mul (.idx (.var 1) (.cint 0)) (.idx (.var 2) (.cint 1))))
 (.seq (.assign 4 (.bin .mul (.idx (.var 2) (.cint 0)) (.idx (.var 1) (.cint 1))))
 (.seq (.assign 5 (.bin .mul (.idx (.var 1) (.cint 1)) (.idx (.var 2) (.cint 1))))
 (.seq (.assign 6 (.lst (.cons (.idx (.var 0) (.neg (.cint 1))) .nil)))
 (.seq (.assign 7 (.lst (.cons (.cint 1) .nil)))
 (.seq (.forr 8 (.rev (.slc (.var 0) .no (.some (.neg (.cint 1))))) (lSeen mu))
 (.seq (.ret (.var 6)) .skip)))))))
/-- [found[k] + number * power[k] for k in range(len(found))] -/
theorem s_zip {ρ : Loc} {c : Int} {i j : Nat} {Φ : Call} {xs ys : List Int} (h6 : lget ρ 6 = some (.lst i)) (h8 : lget ρ 8 = some (.int c)) (h7 : lget ρ 7 = some (.lst j)) (hi : H[i]? = some (xs.map .int)) (hj : H[j]? = some (ys.map .int))
    (hl : xs.length = ys.length) (hn : xs.length ≤ 1000) (hm : ∀ y ∈ ys, IntMulOk c y) (hQ : Q (.lst H.length) (H ++ [(addL xs (smul c ys)).map .int])) :
    wpE sub Φ zSeen ρ H Q := by
  dsimp only [zSeen, qE1, qE2, qE3, qE4, qE5, qE6, qE7, qE8, qE9, qE10, qE11, qE12, qE13, qE14, qE15, qE16, qE17, qE18, qE19, qE20, qE21, qE22, qI1, qI2, qI3, qEs1, qEs2]
  refine ifSome.mk h6 ?_
  dsimp only [w_lenl]
  refine ifSome.mk hi ?_
  rw [List.length_map]
  refine rng1 (smallI_of (by omega) (by omega)) ⟨by rw [List.length_map, List.length_range']; unfold lim; omega, ?_⟩
  rw [Int.toNat_natCast]
  refine compGo_rng (g := fun i => V.int (xs.getD i 0 + c * ys.getD i 0)) ?_ ?_
  · intro t ht k hk
    rw [Nat.zero_add] at ht
    have ht' : t < ys.length := hl ▸ ht
    dsimp only [eSeen, w_bindT1, qO1, qO2, ifSome_some, List.map_cons, List.map_nil, List.cons_append, List.nil_append]
    have em : List.map (lget ρ) [6, 8, 7] = [some (.lst i), some (.int c), some (.lst j)] := by
      show [lget ρ 6, lget ρ 8, lget ρ 7] = _
      rw [h6, h8, h7]
    rw [em, if_pos rfl]
    dsimp only [qE1, qE2, qE3, qE4, qE5, qE6, qE7, qE8, qE9, qE10, qE11, qE12, qE13, qE14, qE15, qE16, qE17, qE18, qE19, qE20, qE21, qE22, lget, ifSome_some, w_idxl]
    refine ifSome.mk hi (ifSome.mk (place_nat (k := t) (by rw [List.length_map]; exact ht)) (ifSome.mk (v := .int (xs.getD t 0)) ?_ ?_))
    · rw [List.getElem?_map, List.getElem?_eq_getElem ht, List.getD_eq_getElem?_getD, List.getElem?_eq_getElem ht]; rfl
    refine ifSome.mk hj (ifSome.mk (place_nat (k := t) (by rw [List.length_map]; exact ht')) (ifSome.mk (v := .int (ys.getD t 0)) ?_ ⟨?_, hk⟩))
    · rw [List.getElem?_map, List.getElem?_eq_getElem ht', List.getD_eq_getElem?_getD, List.getElem?_eq_getElem ht']; rfl
    · rw [List.getD_eq_getElem?_getD, List.getElem?_eq_getElem ht']; exact hm _ (List.getElem_mem _)
  · rw [zip_range (f := fun x y => x + c * y) hl]
    have : List.zipWith (fun x y => x + c * y) xs ys = addL xs (smul c ys) := by
      rw [addL, smul, List.zipWith_map_right]
    rw [this]; exact hQ

noncomputable def lo (p1 q1 : Int) : V := .tup [.int p1, .int q1]
theorem s_seen (e : P[f]? = some ⟨3, 9, bSeen mu⟩) (em : P[mu]? = some ⟨3, 5, bMul⟩) {v : V} {row : List Int} {p1 q1 p2 q2 : Int} {K L : Nat} (hv : items H v = some (row.map .int)) (h0 : row ≠ []) (hl : row.length ≤ 900)
    (hr : AllSm K row) (hb : Sm L (p1 * q2)) (he : Sm L (p2 * q1)) (hs : Sm L (q1 * q2)) (m1 : IntMulOk p1 q2) (m2 : IntMulOk p2 q1) (m3 : IntMulOk q1 q2) (hB : K + L + 2 + row.length * (L + 2) ≤ 1000000)
    (hQ : ∀ H' k, H <+: H' → H'[k]? = some ((Mine.hs (p1 * q2) (p2 * q1) (q1 * q2) row).map .int) → Q (.lst k) H') : callN sub P (n + 2) f [v, .tup [.int p1, .int q1], .tup [.int p2, .int q2]] H Q X := by
  refine callN_mk e rfl ?_
  generalize eb : p1 * q2 = b at *
  generalize ee : p2 * q1 = e' at *
  generalize es : q1 * q2 = s at *
  obtain ⟨r0, c, hrow⟩ : ∃ r0 c, row = r0 ++ [c] := ⟨row.dropLast, row.getLast h0, (List.dropLast_concat_getLast h0).symm⟩
  dsimp only [bSeen, qS1, qS2, qS3, qS4, qS5, qS6, qS7, qS8, qS9, qS10, qS11, qS12, qS13, qS14, qS15, qS16, qS17, qS18, qE1, qE2, qE3, qE4, qE5, qE6, qE7, qE8, qE9, qE10, qE11, qE12, qE13, qE14, qE15, qE16, qE17, qE18, qE19, qE20, qE21, qE22, qEs1, qEs2, wpAll, qO1, qO2, qI1, qI2, qI3, w_add, w_addl, w_sub, w_mul, w_mull, w_fdiv, w_mod, w_pow, w_lt, w_le, w_gt, w_ge, w_eq, w_ne, w_eqt, w_eql, w_net, w_nel, w_isn, w_ist, w_isi, w_isl, w_abs, w_lent, w_lenl, w_intb, w_list, w_tuple, w_min, w_idxt0, w_idxt1, w_idxu0, w_idxu1, w_idxu2, w_idxl, w_slcl, w_slct, w_tb, w_ti, w_tn, w_tt, w_tl, w_itt, w_itl, w_bindT1, w_bindT2, w_srcl, w_srct, w_cut2, w_cut1, w_cut1', w_cut0, w_ty1, w_ty2, w_ty3, w_ty4, w_ty5, w_ty6, w_ty7, w_ty8, w_ty9, w_ty10, w_ty11, w_ty12, w_ty13, w_ty14, w_ty15, w_ty16, w_ty17, w_ty18, w_ty19, w_ty20, w_ty21, w_mapc, w_mapn, w_appc, w_appn, w_repc, w_repn, w_start, w_lenc, w_ifT, w_ifF, w_ifFF, w_ifTF, w_nT, w_nF, w_anyT, w_anyF, w_d22, ifSome_some, ifLst_lst, ifTup_tup, ifInt_int, lget, lset, lsets, Nat.reduceSub, Nat.reduceAdd, List.length_nil, ↓reduceIte, w_idxg]
  refine ⟨m1, m2, m3, ?_⟩
  rw [eb, ee, es]
  refine ifSome.mk hv (ifSome.mk (place_last (by rw [List.length_map]; exact List.length_pos_iff.mpr h0)) (ifSome.mk (v := .int c) ?_ ?_))
  · rw [hrow, List.map_append, List.length_append, List.length_map]; simp
  refine slc_front (itemsKeep (preTrans (preApp _ _) (preApp _ _)) hv) (by rw [hrow]; simp) fun v' H1 hp hv1 => ?_
  refine ifSome.mk hv1 ?_
  have hp0 : H <+: H1 := preTrans (preTrans (preApp _ _) (preApp _ _)) hp
  refine forGo_rule (fun rest ρ H' => ∃ pre suf kf kp o, row = pre ++ suf ∧ suf ≠ [] ∧ rest = ((pre : List Int).map V.int).reverse ∧ ρ = [some v, some (.tup [.int p1, .int q1]), some (.tup [.int p2, .int q2]), some (.int b), some (.int e'), some (.int s), some (.lst kf), some (.lst kp), o] ∧
    H <+: H' ∧ H'[kf]? = some ((Mine.hs b e' s suf).map .int) ∧ H'[kp]? = some ((mulN s s (suf.length - 1) [1]).map .int)) ?_ ?_ _ _ _ ⟨r0, [c], H.length, H.length + 1, none, hrow, List.cons_ne_nil _ _, ?_, ?_, hp0, ?_, ?_⟩
  · rintro x xs ρ H' k ⟨pre, suf, kf, kp, o, hr1, hr2, hx, rfl, hpre, hf, hpw⟩ hk
    rcases List.eq_nil_or_concat pre with rfl | ⟨pre', d, rfl⟩
    · cases hx
    rw [List.concat_eq_append] at hr1 hx
    rw [List.map_append, List.reverse_append] at hx
    cases hx
    have hsl : suf.length ≤ row.length := by rw [hr1, List.length_append]; exact Nat.le_add_left _ _
    have hdm : Sm K d := hr d (by rw [hr1]; simp)
    have hsf : AllSm K suf := fun y hy => hr y (by rw [hr1]; simp [hy])
    have hs1 : 1 ≤ suf.length := List.length_pos_iff.mpr hr2
    have bp := AllSm.pow1 hs (n := suf.length - 1)
    have bf := AllSm.hs hb he hs hsf
    have mm : suf.length * (L + 2) ≤ row.length * (L + 2) := Nat.mul_le_mul_right _ hsl
    have mm1 : (suf.length - 1) * (L + 1) + (L + 1) ≤ suf.length * (L + 2) := by
      have e1 : (suf.length - 1) * (L + 1) + (L + 1) = suf.length * (L + 1) := by rw [← Nat.succ_mul]; congr 1; omega
      rw [e1]; exact Nat.mul_le_mul_left _ (Nat.le_succ _)
    dsimp only [lSeen, qS1, qS2, qS3, qS4, qS5, qS6, qS7, qS8, qS9, qS10, qS11, qS12, qS13, qS14, qS15, qS16, qS17, qS18, qE1, qE2, qE3, qE4, qE5, qE6, qE7, qE8, qE9, qE10, qE11, qE12, qE13, qE14, qE15, qE16, qE17, qE18, qE19, qE20, qE21, qE22, qEs1, qEs2, wpAll, qO1, qO2, qI1, qI2, qI3, w_add, w_addl, w_sub, w_mul, w_mull, w_fdiv, w_mod, w_pow, w_lt, w_le, w_gt, w_ge, w_eq, w_ne, w_eqt, w_eql, w_net, w_nel, w_isn, w_ist, w_isi, w_isl, w_abs, w_lent, w_lenl, w_intb, w_list, w_tuple, w_min, w_idxt0, w_idxt1, w_idxu0, w_idxu1, w_idxu2, w_idxl, w_slcl, w_slct, w_tb, w_ti, w_tn, w_tt, w_tl, w_itt, w_itl, w_bindT1, w_bindT2, w_srcl, w_srct, w_cut2, w_cut1, w_cut1', w_cut0, w_ty1, w_ty2, w_ty3, w_ty4, w_ty5, w_ty6, w_ty7, w_ty8, w_ty9, w_ty10, w_ty11, w_ty12, w_ty13, w_ty14, w_ty15, w_ty16, w_ty17, w_ty18, w_ty19, w_ty20, w_ty21, w_mapc, w_mapn, w_appc, w_appn, w_repc, w_repn, w_start, w_lenc, w_ifT, w_ifF, w_ifFF, w_ifTF, w_nT, w_nF, w_anyT, w_anyF, w_d22, ifSome_some, ifLst_lst, ifTup_tup, ifInt_int, lget, lset, lsets, Nat.reduceSub, Nat.reduceAdd, List.length_nil, ↓reduceIte]
    refine s_mul em (row := mulN s s (suf.length - 1) [1]) hpw ?_ ?_ fun H2 kp' hp2 hpw2 => ?_
    · rw [mulN_len, List.length_singleton]; omega
    · intro y hy; have := IntMulOk.sm (bp y hy) hs (by omega) (by omega); exact ⟨this, this⟩
    refine s_mul em (row := Mine.hs b e' s suf) (getKeep hp2 hf) ?_ ?_ fun H3 kf' hp3 hf3 => ?_
    · rw [hs_len]; omega
    · intro y hy; exact ⟨IntMulOk.sm (bf y hy) hb (by omega) (by omega), IntMulOk.sm (bf y hy) he (by omega) (by omega)⟩
    have ep : mulG s s 0 (mulN s s (suf.length - 1) [1]) = mulN s s suf.length [1] := by
      show mulN s s (suf.length - 1 + 1) [1] = _
      rw [Nat.sub_add_cancel hs1]
    rw [ep] at hpw2
    refine s_zip rfl rfl rfl hf3 (getKeep hp3 hpw2) ?_ ?_ ?_ ?_
    · rw [mulG_len, hs_len, mulN_len, List.length_singleton]; omega
    · rw [mulG_len, hs_len]; omega
    · intro y hy; refine IntMulOk.sm hdm (AllSm.pow1 hs y hy) (by omega) ?_
      have : suf.length * (L + 1) ≤ suf.length * (L + 2) := Nat.mul_le_mul_left suf.length (Nat.le_succ (L + 1)); omega
    refine hk _ _ ⟨pre', d :: suf, _, _, _, by rw [hr1, List.append_assoc]; rfl, List.cons_ne_nil _ _, rfl, rfl, preTrans hpre (preTrans hp2 (preTrans hp3 (preApp _ _))), ?_, ?_⟩
    · rw [getApp]; rfl
    · exact getKeep (preTrans hp3 (preApp _ _)) hpw2
  · rintro ρ H' ⟨pre, suf, kf, kp, o, hr1, hr2, hx, rfl, hpre, hf, hpw⟩
    have hnil : pre = [] := by
      have := congrArg List.length hx
      simp at this; exact List.eq_nil_of_length_eq_zero this.symm
    subst hnil
    rw [List.nil_append] at hr1
    subst hr1
    exact hQ _ _ hpre hf
  · rw [hrow, List.map_append, List.map_cons, List.map_nil, List.dropLast_concat]
  · rw [List.length_append]; rfl
  · refine getKeep hp ?_
    rw [List.append_assoc]
    show (H ++ [V.int c] :: _)[H.length]? = _
    rw [getApp]; simp [Mine.hs, mulG, mulN, addL, smul]
  · refine getKeep hp ?_
    rw [List.append_assoc]
    exact getApp1 _ _ _ _

noncomputable def lTurns : PS := (.seq (.ite (.cmp .ne (.var 5) (.cint 0)) (.seq (.ite (.cmp .lt (.bin .mul (.var 4) (.var 5)) (.cint 0)) (.seq (.assign 3 (.bin .add (.var 3) (.cint 1)))
 .skip) .skip)
 (.seq (.assign 4 (.var 5)) .skip)) .skip)
 .skip)
noncomputable def bTurns (se : Nat) : PS := (.seq (.assign 3 (.cint 0))
 (.seq (.assign 4 (.cint 0))
 (.seq (.forr 5 (.seq (.call se (.cons (.var 0) (.cons (.var 1) (.cons (.var 2) .nil))))) lTurns)
 (.seq (.ret (.var 3)) .skip))))
theorem s_turns {se : Nat} (e0 : P[f]? = some ⟨3, 6, bTurns se⟩) (e : P[se]? = some ⟨3, 9, bSeen mu⟩) (em : P[mu]? = some ⟨3, 5, bMul⟩) {v : V} {row : List Int} {p1 q1 p2 q2 : Int} {K L : Nat} (hv : items H v = some (row.map .int)) (h0 : row ≠ []) (hl : row.length ≤ 900)
    (hr : AllSm K row) (hb : Sm L (p1 * q2)) (he : Sm L (p2 * q1)) (hs : Sm L (q1 * q2)) (m1 : IntMulOk p1 q2) (m2 : IntMulOk p2 q1) (m3 : IntMulOk q1 q2) (hB : K + L + 2 + row.length * (L + 2) ≤ 1000000)
    (hQ : ∀ H', H <+: H' → Q (.int (tv 0 (Mine.hs (p1 * q2) (p2 * q1) (q1 * q2) row))) H') : callN sub P (n + 3) f [v, .tup [.int p1, .int q1], .tup [.int p2, .int q2]] H Q X := by
  refine callN_mk e0 rfl ?_
  dsimp only [bTurns, qS1, qS2, qS3, qS4, qS5, qS6, qS7, qS8, qS9, qS10, qS11, qS12, qS13, qS14, qS15, qS16, qS17, qS18, qE1, qE2, qE3, qE4, qE5, qE6, qE7, qE8, qE9, qE10, qE11, qE12, qE13, qE14, qE15, qE16, qE17, qE18, qE19, qE20, qE21, qE22, qEs1, qEs2, wpAll, qO1, qO2, qI1, qI2, qI3, w_add, w_addl, w_sub, w_mul, w_mull, w_fdiv, w_mod, w_pow, w_lt, w_le, w_gt, w_ge, w_eq, w_ne, w_eqt, w_eql, w_net, w_nel, w_isn, w_ist, w_isi, w_isl, w_abs, w_lent, w_lenl, w_intb, w_list, w_tuple, w_min, w_idxt0, w_idxt1, w_idxu0, w_idxu1, w_idxu2, w_idxl, w_slcl, w_slct, w_tb, w_ti, w_tn, w_tt, w_tl, w_itt, w_itl, w_bindT1, w_bindT2, w_srcl, w_srct, w_cut2, w_cut1, w_cut1', w_cut0, w_ty1, w_ty2, w_ty3, w_ty4, w_ty5, w_ty6, w_ty7, w_ty8, w_ty9, w_ty10, w_ty11, w_ty12, w_ty13, w_ty14, w_ty15, w_ty16, w_ty17, w_ty18, w_ty19, w_ty20, w_ty21, w_mapc, w_mapn, w_appc, w_appn, w_repc, w_repn, w_start, w_lenc, w_ifT, w_ifF, w_ifFF, w_ifTF, w_nT, w_nF, w_anyT, w_anyF, w_d22, ifSome_some, ifLst_lst, ifTup_tup, ifInt_int, lget, lset, lsets, Nat.reduceSub, Nat.reduceAdd, List.length_nil, ↓reduceIte]
  refine s_seen e em hv h0 hl hr hb he hs m1 m2 m3 hB fun H1 k hp hk => ?_
  have hA := AllSm.hs hb he hs hr
  revert hA hQ hk
  generalize Mine.hs (p1 * q2) (p2 * q1) (q1 * q2) row = xs
  intro hQ hk hA
  refine ifSome.mk hk ?_
  refine forGo_rule (fun rest ρ H' => ∃ td many ahead o, rest = (td : List Int).map V.int ∧ ρ = [some v, some (.tup [.int p1, .int q1]), some (.tup [.int p2, .int q2]), some (.int many), some (.int ahead), o] ∧ H' = H1 ∧ many + tv ahead td = tv 0 xs ∧ AllSm 1000000 td ∧ Sm 1000000 ahead) ?_ ?_ _ _ _ ⟨xs, 0, 0, _, rfl, rfl, rfl, Int.zero_add _, hA.mono (by omega), Sm.zero⟩
  · rintro x rest ρ H' k' ⟨td, many, ahead, o, hx, rfl, rfl, hm, ha, hah⟩ hk'
    cases td with
    | nil => cases hx
    | cons y td =>
      cases hx
      dsimp only [lTurns, qS1, qS2, qS3, qS4, qS5, qS6, qS7, qS8, qS9, qS10, qS11, qS12, qS13, qS14, qS15, qS16, qS17, qS18, qE1, qE2, qE3, qE4, qE5, qE6, qE7, qE8, qE9, qE10, qE11, qE12, qE13, qE14, qE15, qE16, qE17, qE18, qE19, qE20, qE21, qE22, qEs1, qEs2, wpAll, qO1, qO2, qI1, qI2, qI3, w_add, w_addl, w_sub, w_mul, w_mull, w_fdiv, w_mod, w_pow, w_lt, w_le, w_gt, w_ge, w_eq, w_ne, w_eqt, w_eql, w_net, w_nel, w_isn, w_ist, w_isi, w_isl, w_abs, w_lent, w_lenl, w_intb, w_list, w_tuple, w_min, w_idxt0, w_idxt1, w_idxu0, w_idxu1, w_idxu2, w_idxl, w_slcl, w_slct, w_tb, w_ti, w_tn, w_tt, w_tl, w_itt, w_itl, w_bindT1, w_bindT2, w_srcl, w_srct, w_cut2, w_cut1, w_cut1', w_cut0, w_ty1, w_ty2, w_ty3, w_ty4, w_ty5, w_ty6, w_ty7, w_ty8, w_ty9, w_ty10, w_ty11, w_ty12, w_ty13, w_ty14, w_ty15, w_ty16, w_ty17, w_ty18, w_ty19, w_ty20, w_ty21, w_mapc, w_mapn, w_appc, w_appn, w_repc, w_repn, w_start, w_lenc, w_ifT, w_ifF, w_ifFF, w_ifTF, w_nT, w_nF, w_anyT, w_anyF, w_d22, ifSome_some, ifLst_lst, ifTup_tup, ifInt_int, lget, lset, lsets, Nat.reduceSub, Nat.reduceAdd, List.length_nil, ↓reduceIte]
      by_cases hy : y = 0
      · rw [decide_eq_true hy]
        refine hk' _ _ ⟨td, many, ahead, _, rfl, rfl, rfl, ?_, ha.tl, hah⟩
        rw [← hm, tv, if_pos hy, hy, Int.mul_zero, if_neg (by decide), Int.zero_add]
      · rw [decide_eq_false hy]
        refine ⟨IntMulOk.sm hah ha.hd (by decide) (by decide), ?_⟩
        by_cases hc : ahead * y < 0
        · rw [decide_eq_true hc]
          refine hk' _ _ ⟨td, many + 1, y, _, rfl, rfl, rfl, ?_, ha.tl, ha.hd⟩
          rw [← hm, tv, if_neg hy, if_pos hc, Int.add_assoc]
        · rw [decide_eq_false hc]
          refine hk' _ _ ⟨td, many, y, _, rfl, rfl, rfl, ?_, ha.tl, ha.hd⟩
          rw [← hm, tv, if_neg hy, if_neg hc, Int.zero_add]
  · rintro ρ H' ⟨td, many, ahead, o, hx, rfl, rfl, hm, ha, hah⟩
    cases td with
    | cons y td => cases hx
    | nil =>
      rw [tv, Int.add_zero] at hm
      subst hm
      exact hQ _ hp
end
end Mine

set_option autoImplicit false
set_option linter.unusedVariables false
set_option linter.unusedSimpArgs false
set_option maxRecDepth 100000
namespace Mine
open PySem
theorem pred_nat {n : Nat} : ((n + 1 : Nat) : Int) - 1 = (n : Int) := by omega
theorem small_nat {n : Nat} (h : n ≤ 900) : smallI (n : Int) := smallI_of (by omega) (by omega)
theorem bnd_k {K L j r : Nat} (h : j * (L + 1) ≤ r * (L + 2)) (hB : K + L + 2 + r * (L + 2) ≤ 1000000) : K + j * (L + 1) ≤ 1048576 := by omega
theorem bnd_l {K L r : Nat} (hB : K + L + 2 + r * (L + 2) ≤ 1000000) : L ≤ 1048576 := by omega
theorem bnd_len {j r d : Nat} (h : j ≤ r) (hl : r ≤ 900) : 1 + min j d + (j - d) ≤ 1000 := by omega
theorem min_add {j d : Nat} : min j d + (j - d) = j := by omega
section
variable {sub : Nat → Nat → Bool} {P : List Fn} {f n mu : Nat} {H : Hp} {Q : V → Hp → Prop} {X : Nat → Hp → Prop}
noncomputable def lBy1 : PS := (.seq (.setidx 2 (.bin .add (.var 3) (.var 4)) (.bin .add (.idx (.var 2) (.bin .add (.var 3) (.var 4))) (.bin .mul (.idx (.var 0) (.var 3)) (.idx (.var 1) (.var 4)))))
 .skip)
noncomputable def lBy2 : PS := (.seq (.forr 4 (.rng (.cons (.bi .len (.cons (.var 1) .nil)) .nil)) lBy1)
 .skip)
noncomputable def zBy : PE := (.comp (.cint 0) 1 [] (.rng (.cons (.bin .sub (.bin .add (.bi .len (.cons (.var 0) .nil)) (.bi .len (.cons (.var 1) .nil))) (.cint 1)) .nil)) .no)
noncomputable def bBy : PS := (.seq (.assign 2 zBy)
 (.seq (.forr 3 (.rng (.cons (.bi .len (.cons (.var 0) .nil)) .nil)) lBy2)
 (.seq (.ret (.var 2)) .skip)))
theorem s_by (e : P[f]? = some ⟨2, 5, bBy⟩) {m w : Nat} {row : List Int} {a b : Int} (hm : H[m]? = some (row.map .int)) (hw : H[w]? = some [.int a, .int b]) (hl : row.length ≤ 1000) (hb : ∀ x ∈ row, IntMulOk x a ∧ IntMulOk x b)
    (hQ : ∀ H' k, H <+: H' → H.length ≤ k → H'[k]? = some ((mulG a b 0 row).map .int) → Q (.lst k) H') : callN sub P (n + 1) f [.lst m, .lst w] H Q X := by
  refine callN_mk e rfl ?_
  dsimp only [bBy, zBy, qS1, qS2, qS3, qS4, qS5, qS6, qS7, qS8, qS9, qS10, qS11, qS12, qS13, qS14, qS15, qS16, qS17, qS18, qE1, qE2, qE3, qE4, qE5, qE6, qE7, qE8, qE9, qE10, qE11, qE12, qE13, qE14, qE15, qE16, qE17, qE18, qE19, qE20, qE21, qE22, qEs1, qEs2, wpAll, qO1, qO2, qI1, qI2, qI3, w_add, w_addl, w_sub, w_mul, w_mull, w_fdiv, w_mod, w_pow, w_lt, w_le, w_gt, w_ge, w_eq, w_ne, w_eqt, w_eql, w_net, w_nel, w_isn, w_ist, w_isi, w_isl, w_abs, w_lent, w_lenl, w_intb, w_list, w_tuple, w_min, w_idxt0, w_idxt1, w_idxu0, w_idxu1, w_idxu2, w_idxl, w_slcl, w_slct, w_tb, w_ti, w_tn, w_tt, w_tl, w_itt, w_itl, w_bindT1, w_bindT2, w_srcl, w_srct, w_cut2, w_cut1, w_cut1', w_cut0, w_ty1, w_ty2, w_ty3, w_ty4, w_ty5, w_ty6, w_ty7, w_ty8, w_ty9, w_ty10, w_ty11, w_ty12, w_ty13, w_ty14, w_ty15, w_ty16, w_ty17, w_ty18, w_ty19, w_ty20, w_ty21, w_mapc, w_mapn, w_appc, w_appn, w_repc, w_repn, w_start, w_lenc, w_ifT, w_ifF, w_ifFF, w_ifTF, w_nT, w_nF, w_anyT, w_anyF, w_d22, ifSome_some, ifLst_lst, ifTup_tup, ifInt_int, lget, lset, lsets, Nat.reduceSub, Nat.reduceAdd, List.length_nil, ↓reduceIte]
  refine ifSome.mk hm (ifSome.mk hw ?_)
  rw [List.length_map]
  refine rng1 (smallI_of (by omega) (by simp; omega)) ⟨by rw [List.length_map, List.length_range']; unfold lim; simp; omega, ?_⟩
  refine compGo_rng (g := fun _ => V.int 0) (fun i hi k hk => hk) ?_
  rw [show ((row.length : Int) + (([V.int a, V.int b].length : Nat) : Int) - 1).toNat = row.length + 1 by simp; omega]
  refine ifSome.mk (getKeep (preApp _ _) hm) ?_
  refine rng1 (smallI_of (by rw [List.length_map]; omega) (by rw [List.length_map]; omega)) ?_
  rw [List.length_map, Int.toNat_natCast, show (List.range' 0 (row.length + 1)).map (fun _ => V.int 0) = List.replicate (row.length + 1) (V.int 0) from by rw [List.map_const', List.length_range']]
  refine forGo_rule (fun rest ρ H' => ∃ dn td pre c o o', row = dn ++ td ∧ rest = (List.range' dn.length td.length).map (fun (i : Nat) => V.int (i : Int)) ∧ ρ = [some (.lst m), some (.lst w), some (.lst H.length), o, o'] ∧
    H' = H ++ ((pre : List Int).map V.int ++ V.int c :: List.replicate td.length (V.int 0)) :: [] ∧ pre.length = dn.length ∧ pre ++ mulG a b c td = mulG a b 0 row) ?_ ?_ _ _ _ ⟨[], row, [], 0, _, _, rfl, rfl, rfl, rfl, rfl, rfl⟩
  · rintro x xs ρ H' k ⟨dn, td, pre, c, o, o', hr, hx, rfl, rfl, hp, hmm⟩ hk
    cases td with
    | nil => cases hx
    | cons y td =>
      rw [range'_len] at hx
      cases hx
      have hm' : ∀ l : List V, (H ++ l :: [])[m]? = some (row.map .int) := fun l => getKeep (preApp _ _) hm
      have hw' : ∀ l : List V, (H ++ l :: [])[w]? = some [.int a, .int b] := fun l => getKeep (preApp _ _) hw
      have hy : (row.map V.int)[dn.length]? = some (.int y) := by rw [hr, List.map_append, List.map_cons]; have := getApp (dn.map V.int) (V.int y) (td.map V.int); rwa [List.length_map] at this
      have hdl : dn.length < (row.map V.int).length := by rw [hr]; simp
      have hmy := hb y (by rw [hr]; simp)
      have hpl : (pre.map V.int).length = dn.length := by rw [List.length_map, hp]
      dsimp only [lBy2, qS1, qS2, qS3, qS4, qS5, qS6, qS7, qS8, qS9, qS10, qS11, qS12, qS13, qS14, qS15, qS16, qS17, qS18, qE1, qE2, qE3, qE4, qE5, qE6, qE7, qE8, qE9, qE10, qE11, qE12, qE13, qE14, qE15, qE16, qE17, qE18, qE19, qE20, qE21, qE22, qEs1, qEs2, wpAll, qO1, qO2, qI1, qI2, qI3, w_add, w_addl, w_sub, w_mul, w_mull, w_fdiv, w_mod, w_pow, w_lt, w_le, w_gt, w_ge, w_eq, w_ne, w_eqt, w_eql, w_net, w_nel, w_isn, w_ist, w_isi, w_isl, w_abs, w_lent, w_lenl, w_intb, w_list, w_tuple, w_min, w_idxt0, w_idxt1, w_idxu0, w_idxu1, w_idxu2, w_idxl, w_slcl, w_slct, w_tb, w_ti, w_tn, w_tt, w_tl, w_itt, w_itl, w_bindT1, w_bindT2, w_srcl, w_srct, w_cut2, w_cut1, w_cut1', w_cut0, w_ty1, w_ty2, w_ty3, w_ty4, w_ty5, w_ty6, w_ty7, w_ty8, w_ty9, w_ty10, w_ty11, w_ty12, w_ty13, w_ty14, w_ty15, w_ty16, w_ty17, w_ty18, w_ty19, w_ty20, w_ty21, w_mapc, w_mapn, w_appc, w_appn, w_repc, w_repn, w_start, w_lenc, w_ifT, w_ifF, w_ifFF, w_ifTF, w_nT, w_nF, w_anyT, w_anyF, w_d22, ifSome_some, ifLst_lst, ifTup_tup, ifInt_int, lget, lset, lsets, Nat.reduceSub, Nat.reduceAdd, List.length_nil, ↓reduceIte]
      refine ifSome.mk (hw' _) (rng1 (smallI_of (show (-1000000 : Int) ≤ 2 by decide) (show (2 : Int) ≤ 1000000 by decide)) ?_)
      show forGo _ 4 [.int 0, .int 1] _ _ _
      dsimp only [forGo, lBy1, qS1, qS2, qS3, qS4, qS5, qS6, qS7, qS8, qS9, qS10, qS11, qS12, qS13, qS14, qS15, qS16, qS17, qS18, qE1, qE2, qE3, qE4, qE5, qE6, qE7, qE8, qE9, qE10, qE11, qE12, qE13, qE14, qE15, qE16, qE17, qE18, qE19, qE20, qE21, qE22, qEs1, qEs2, wpAll, qO1, qO2, qI1, qI2, qI3, w_add, w_addl, w_sub, w_mul, w_mull, w_fdiv, w_mod, w_pow, w_lt, w_le, w_gt, w_ge, w_eq, w_ne, w_eqt, w_eql, w_net, w_nel, w_isn, w_ist, w_isi, w_isl, w_abs, w_lent, w_lenl, w_intb, w_list, w_tuple, w_min, w_idxt0, w_idxt1, w_idxu0, w_idxu1, w_idxu2, w_idxl, w_slcl, w_slct, w_tb, w_ti, w_tn, w_tt, w_tl, w_itt, w_itl, w_bindT1, w_bindT2, w_srcl, w_srct, w_cut2, w_cut1, w_cut1', w_cut0, w_ty1, w_ty2, w_ty3, w_ty4, w_ty5, w_ty6, w_ty7, w_ty8, w_ty9, w_ty10, w_ty11, w_ty12, w_ty13, w_ty14, w_ty15, w_ty16, w_ty17, w_ty18, w_ty19, w_ty20, w_ty21, w_mapc, w_mapn, w_appc, w_appn, w_repc, w_repn, w_start, w_lenc, w_ifT, w_ifF, w_ifFF, w_ifTF, w_nT, w_nF, w_anyT, w_anyF, w_d22, ifSome_some, ifLst_lst, ifTup_tup, ifInt_int, lget, lset, lsets, Nat.reduceSub, Nat.reduceAdd, List.length_nil, ↓reduceIte, List.replicate_succ, List.length_cons]
      refine ifSome.mk (getApp _ _ _) (ifSome.mk (v := dn.length) ?_ (ifSome.mk (v := .int c) (by rw [← hpl]; exact getApp _ _ _) ?_))
      · rw [Int.add_zero]; exact place_nat (by simp; omega)
      refine ifSome.mk (hm' _) (ifSome.mk (place_nat (k := dn.length) hdl) (ifSome.mk hy ?_))
      refine ifSome.mk (hw' _) (ifSome.mk (v := 0) rfl (ifSome.mk (v := .int a) rfl ⟨hmy.1, ?_⟩))
      refine ⟨⟨⟨Nat.le_refl _, Option.some_ne_none _⟩, Option.some_ne_none _⟩, ?_⟩
      refine ifSome.mk (getApp _ _ _) (ifSome.mk (v := dn.length) ?_ ?_)
      · rw [Int.add_zero]; exact place_nat (by simp; omega)
      rw [setApp, ← hpl, setApp]
      refine ifSome.mk (getApp _ _ _) (ifSome.mk (v := (pre.map V.int).length + 1) (place_nat (by simp)) (ifSome.mk (v := .int 0) (getApp1 _ _ _ _) ?_))
      refine ifSome.mk (hm' _) (ifSome.mk (place_nat (k := (pre.map V.int).length) (by rw [hpl]; exact hdl)) (ifSome.mk (v := .int y) (by rw [hpl]; exact hy) ?_))
      refine ifSome.mk (hw' _) (ifSome.mk (v := 1) rfl (ifSome.mk (v := .int b) rfl ⟨hmy.2, ?_⟩))
      refine ⟨⟨⟨Nat.le_refl _, Option.some_ne_none _⟩, Option.some_ne_none _⟩, ?_⟩
      refine ifSome.mk (getApp _ _ _) (ifSome.mk (v := (pre.map V.int).length + 1) (place_nat (by simp)) ?_)
      rw [setApp, setApp1]
      refine hk _ _ ⟨dn ++ [y], td, pre ++ [c + y * a], 0 + y * b, _, _, by rw [hr]; simp, by rw [List.length_append]; rfl, rfl, by rw [List.map_append, List.append_assoc]; rfl, by rw [List.length_append, List.length_append, hp]; rfl, ?_⟩
      rw [Int.zero_add, List.append_assoc]; exact hmm
  · rintro ρ H' ⟨dn, td, pre, c, o, o', hr, hx, rfl, rfl, hp, hmm⟩
    cases td with
    | cons y td => rw [range'_len] at hx; cases hx
    | nil =>
      refine hQ _ _ (preApp _ _) (Nat.le_refl _) ?_
      rw [getApp, ← hmm]
      simp [mulG]

noncomputable def lLSeen1 (by_ : Nat) : PS := (.seq (.ite (.cmp .lt (.var 6) (.var 4)) (.seq (.assign 5 (.call by_ (.cons (.var 5) (.cons (.lst (.cons (.bin .mul (.idx (.var 1) (.cint 0)) (.idx (.var 2) (.cint 1))) (.cons (.bin .mul (.idx (.var 2) (.cint 0)) (.idx (.var 1) (.cint 1))) .nil))) .nil))))
 .skip) (.seq (.assign 5 (.call by_ (.cons (.var 5) (.cons (.lst (.cons (.bin .mul (.idx (.var 1) (.cint 1)) (.idx (.var 2) (.cint 1))) (.cons (.bin .mul (.idx (.var 1) (.cint 1)) (.idx (.var 2) (.cint 1))) .nil))) .nil))))
 .skip))
 .skip)
noncomputable def zLSeen : PE := (.comp (.bin .add (.idx (.var 1) (.var 0)) (.idx (.var 2) (.var 0))) 1 [3, 5] (.rng (.cons (.bi .len (.cons (.var 0) .nil)) .nil)) .no)
noncomputable def lLSeen2 (by_ : Nat) : PS := (.seq (.assign 5 (.lst (.cons (.idx (.var 0) (.var 4)) .nil)))
 (.seq (.forr 6 (.rng (.cons (.bin .sub (.bi .len (.cons (.var 0) .nil)) (.cint 1)) .nil)) (lLSeen1 by_))
 (.seq (.assign 3 zLSeen) .skip)))
noncomputable def zLZero : PE := (.comp (.cint 0) 1 [] (.seq (.var 0)) .no)
noncomputable def bLSeen (by_ : Nat) : PS := (.seq (.assign 3 zLZero)
 (.seq (.forr 4 (.rng (.cons (.bi .len (.cons (.var 0) .nil)) .nil)) (lLSeen2 by_))
 (.seq (.ret (.var 3)) .skip)))
/-- [found[j] + made[j] for j in range(len(row))] -/
theorem s_lzip {ρ : Loc} {i j r : Nat} {Φ : Call} {xs ys : List Int} {zs : List V} (h0 : lget ρ 0 = some (.lst r)) (h3 : lget ρ 3 = some (.lst i)) (h5 : lget ρ 5 = some (.lst j)) (hr : H[r]? = some zs) (hi : H[i]? = some (xs.map .int)) (hj : H[j]? = some (ys.map .int))
    (hz : zs.length = xs.length) (hl : xs.length = ys.length) (hn : xs.length ≤ 1000) (hQ : Q (.lst H.length) (H ++ [(addL xs ys).map .int])) :
    wpE sub Φ zLSeen ρ H Q := by
  dsimp only [zLSeen, qE1, qE2, qE3, qE4, qE5, qE6, qE7, qE8, qE9, qE10, qE11, qE12, qE13, qE14, qE15, qE16, qE17, qE18, qE19, qE20, qE21, qE22, qI1, qI2, qI3, qEs1, qEs2]
  refine ifSome.mk h0 ?_
  dsimp only [w_lenl]
  refine ifSome.mk hr ?_
  rw [hz]
  refine rng1 (smallI_of (by omega) (by omega)) ⟨by rw [List.length_map, List.length_range']; unfold lim; omega, ?_⟩
  rw [Int.toNat_natCast]
  refine compGo_rng (g := fun i => V.int (xs.getD i 0 + ys.getD i 0)) ?_ ?_
  · intro t ht k hk
    rw [Nat.zero_add] at ht
    have ht' : t < ys.length := hl ▸ ht
    dsimp only [w_bindT1, qO1, qO2, ifSome_some, List.cons_append, List.nil_append]
    have em : List.map (lget ρ) [3, 5] = [some (.lst i), some (.lst j)] := by
      show [lget ρ 3, lget ρ 5] = _
      rw [h3, h5]
    rw [em, if_pos rfl]
    dsimp only [qE1, qE2, qE3, qE4, qE5, qE6, qE7, qE8, qE9, qE10, qE11, qE12, qE13, qE14, qE15, qE16, qE17, qE18, qE19, qE20, qE21, qE22, lget, ifSome_some, w_idxl]
    refine ifSome.mk hi (ifSome.mk (place_nat (k := t) (by rw [List.length_map]; exact ht)) (ifSome.mk (v := .int (xs.getD t 0)) ?_ ?_))
    · rw [List.getElem?_map, List.getElem?_eq_getElem ht, List.getD_eq_getElem?_getD, List.getElem?_eq_getElem ht]; rfl
    refine ifSome.mk hj (ifSome.mk (place_nat (k := t) (by rw [List.length_map]; exact ht')) (ifSome.mk (v := .int (ys.getD t 0)) ?_ hk))
    · rw [List.getElem?_map, List.getElem?_eq_getElem ht', List.getD_eq_getElem?_getD, List.getElem?_eq_getElem ht']; rfl
  · rw [zip_range (f := fun x y => x + y) hl]; exact hQ
theorem s_lseen {by_ : Nat} (e : P[f]? = some ⟨3, 7, bLSeen by_⟩) (eb : P[by_]? = some ⟨2, 5, bBy⟩) {m : Nat} {row : List Int} {p1 q1 p2 q2 : Int} {K L : Nat} (hm : H[m]? = some (row.map .int)) (hl : row.length ≤ 900)
    (hr : AllSm K row) (hb : Sm L (p1 * q2)) (he : Sm L (p2 * q1)) (hs : Sm L (q1 * q2)) (m1 : IntMulOk p1 q2) (m2 : IntMulOk p2 q1) (m3 : IntMulOk q1 q2) (hB : K + L + 2 + row.length * (L + 2) ≤ 1000000)
    (hQ : ∀ H' k, H <+: H' → H'[k]? = some ((Mine.hs (p1 * q2) (p2 * q1) (q1 * q2) row).map .int) → Q (.lst k) H') : callN sub P (n + 2) f [.lst m, .tup [.int p1, .int q1], .tup [.int p2, .int q2]] H Q X := by
  refine callN_mk e rfl ?_
  generalize eb' : p1 * q2 = b at *
  generalize ee : p2 * q1 = e' at *
  generalize es : q1 * q2 = s at *
  dsimp only [bLSeen, zLZero, qS1, qS2, qS3, qS4, qS5, qS6, qS7, qS8, qS9, qS10, qS11, qS12, qS13, qS14, qS15, qS16, qS17, qS18, qE1, qE2, qE3, qE4, qE5, qE6, qE7, qE8, qE9, qE10, qE11, qE12, qE13, qE14, qE15, qE16, qE17, qE18, qE19, qE20, qE21, qE22, qEs1, qEs2, wpAll, qO1, qO2, qI1, qI2, qI3, w_add, w_addl, w_sub, w_mul, w_mull, w_fdiv, w_mod, w_pow, w_lt, w_le, w_gt, w_ge, w_eq, w_ne, w_eqt, w_eql, w_net, w_nel, w_isn, w_ist, w_isi, w_isl, w_abs, w_lent, w_lenl, w_intb, w_list, w_tuple, w_min, w_idxt0, w_idxt1, w_idxu0, w_idxu1, w_idxu2, w_idxl, w_slcl, w_slct, w_tb, w_ti, w_tn, w_tt, w_tl, w_itt, w_itl, w_bindT1, w_bindT2, w_srcl, w_srct, w_cut2, w_cut1, w_cut1', w_cut0, w_ty1, w_ty2, w_ty3, w_ty4, w_ty5, w_ty6, w_ty7, w_ty8, w_ty9, w_ty10, w_ty11, w_ty12, w_ty13, w_ty14, w_ty15, w_ty16, w_ty17, w_ty18, w_ty19, w_ty20, w_ty21, w_mapc, w_mapn, w_appc, w_appn, w_repc, w_repn, w_start, w_lenc, w_ifT, w_ifF, w_ifFF, w_ifTF, w_nT, w_nF, w_anyT, w_anyF, w_d22, ifSome_some, ifLst_lst, ifTup_tup, ifInt_int, lget, lset, lsets, Nat.reduceSub, Nat.reduceAdd, List.length_nil, ↓reduceIte]
  refine ifSome.mk hm ⟨by rw [List.length_map]; unfold lim; omega, ?_⟩
  refine compGo_map (g := fun _ => V.int 0) (fun x hx k hk => hk) ?_
  refine ifSome.mk (getKeep (preApp _ _) hm) ?_
  rw [List.length_map]
  refine rng1 (small_nat hl) ?_
  rw [Int.toNat_natCast]
  refine forGo_rule (fun rest ρ H' => ∃ dn td kf acc o o1 o2, row = dn ++ td ∧ rest = (List.range' dn.length td.length).map (fun (i : Nat) => V.int (i : Int)) ∧ ρ = [some (.lst m), some (.tup [.int p1, .int q1]), some (.tup [.int p2, .int q2]), some (.lst kf), o, o1, o2] ∧
    H <+: H' ∧ H'[kf]? = some ((acc : List Int).map .int) ∧ acc.length = row.length ∧ addL acc (ls b e' s dn.length td) = ls b e' s 0 row) ?_ ?_ _ _ _ ⟨[], row, H.length, zeros row.length, _, _, _, rfl, rfl, rfl, preApp _ _, ?_, ?_, ?_⟩
  · rintro x xs ρ H' k ⟨dn, td, kf, acc, o, o1, o2, hr1, hx, rfl, hpre, hf, hacc, hsum⟩ hk
    cases td with
    | nil => cases hx
    | cons c td =>
      rw [range'_len] at hx
      cases hx
      have hy : (row.map V.int)[dn.length]? = some (.int c) := by rw [hr1, List.map_append, List.map_cons]; have := getApp (dn.map V.int) (V.int c) (td.map V.int); rwa [List.length_map] at this
      have hdl : dn.length < (row.map V.int).length := by rw [hr1]; simp
      have hrl : row.length = dn.length + td.length + 1 := by rw [hr1, List.length_append, List.length_cons]; rfl
      have hc : Sm K c := hr c (by rw [hr1]; simp)
      have hL : L ≤ 1048576 := bnd_l hB
      dsimp only [lLSeen2, qS1, qS2, qS3, qS4, qS5, qS6, qS7, qS8, qS9, qS10, qS11, qS12, qS13, qS14, qS15, qS16, qS17, qS18, qE1, qE2, qE3, qE4, qE5, qE6, qE7, qE8, qE9, qE10, qE11, qE12, qE13, qE14, qE15, qE16, qE17, qE18, qE19, qE20, qE21, qE22, qEs1, qEs2, wpAll, qO1, qO2, qI1, qI2, qI3, w_add, w_addl, w_sub, w_mul, w_mull, w_fdiv, w_mod, w_pow, w_lt, w_le, w_gt, w_ge, w_eq, w_ne, w_eqt, w_eql, w_net, w_nel, w_isn, w_ist, w_isi, w_isl, w_abs, w_lent, w_lenl, w_intb, w_list, w_tuple, w_min, w_idxt0, w_idxt1, w_idxu0, w_idxu1, w_idxu2, w_idxl, w_slcl, w_slct, w_tb, w_ti, w_tn, w_tt, w_tl, w_itt, w_itl, w_bindT1, w_bindT2, w_srcl, w_srct, w_cut2, w_cut1, w_cut1', w_cut0, w_ty1, w_ty2, w_ty3, w_ty4, w_ty5, w_ty6, w_ty7, w_ty8, w_ty9, w_ty10, w_ty11, w_ty12, w_ty13, w_ty14, w_ty15, w_ty16, w_ty17, w_ty18, w_ty19, w_ty20, w_ty21, w_mapc, w_mapn, w_appc, w_appn, w_repc, w_repn, w_start, w_lenc, w_ifT, w_ifF, w_ifFF, w_ifTF, w_nT, w_nF, w_anyT, w_anyF, w_d22, ifSome_some, ifLst_lst, ifTup_tup, ifInt_int, lget, lset, lsets, Nat.reduceSub, Nat.reduceAdd, List.length_nil, ↓reduceIte]
      refine ifSome.mk (getKeep hpre hm) (ifSome.mk (place_nat (k := dn.length) hdl) (ifSome.mk hy ?_))
      have hp1 : H <+: H' ++ [[V.int c]] := preTrans hpre (preApp _ _)
      refine ifSome.mk (getKeep hp1 hm) ?_
      rw [List.length_map, hrl, show (((dn.length + td.length + 1 : Nat) : Int) - 1) = ((dn.length + td.length : Nat) : Int) from pred_nat]
      refine rng1 (small_nat (Nat.le_trans (Nat.le_succ _) (Nat.le_trans (Nat.le_of_eq hrl.symm) hl))) ?_
      rw [Int.toNat_natCast]
      refine forGo_rule (fun rest ρ H2 => ∃ j t kd o3, j + t = dn.length + td.length ∧ rest = (List.range' j t).map (fun (i : Nat) => V.int (i : Int)) ∧ ρ = [some (.lst m), some (.tup [.int p1, .int q1]), some (.tup [.int p2, .int q2]), some (.lst kf), some (.int (dn.length : Int)), some (.lst kd), o3] ∧
        H' <+: H2 ∧ H2[kd]? = some ((mulN s s (j - dn.length) (mulN b e' (min j dn.length) [c])).map .int)) ?_ ?_ _ _ _ ⟨0, dn.length + td.length, H'.length, _, Nat.zero_add _, rfl, rfl, preApp _ _, ?_⟩
      · rintro x2 xs2 ρ2 H2 k2 ⟨j, t, kd, o3, hjt, hx2, rfl, hpre2, hd⟩ hk2
        cases t with
        | zero => cases hx2
        | succ t =>
          rw [List.range'_succ] at hx2
          cases hx2
          have hAll : AllSm (K + j * (L + 1)) (mulN s s (j - dn.length) (mulN b e' (min j dn.length) [c])) := by
            refine (AllSm.mulN hs hs (AllSm.mulN hb he (.cons hc .nil))).mono ?_
            rw [Nat.add_assoc, ← Nat.add_mul, min_add]
            exact Nat.le_refl _
          have hjr : j ≤ row.length := by clear hB hAll; omega
          have hjb : j * (L + 1) ≤ row.length * (L + 2) := Nat.mul_le_mul hjr (Nat.le_succ _)
          have hK : K + j * (L + 1) ≤ 1048576 := bnd_k hjb hB
          have hlen : (mulN s s (j - dn.length) (mulN b e' (min j dn.length) [c])).length ≤ 1000 := by
            rw [mulN_len, mulN_len, List.length_singleton]; exact bnd_len hjr hl
          dsimp only [lLSeen1, qS1, qS2, qS3, qS4, qS5, qS6, qS7, qS8, qS9, qS10, qS11, qS12, qS13, qS14, qS15, qS16, qS17, qS18, qE1, qE2, qE3, qE4, qE5, qE6, qE7, qE8, qE9, qE10, qE11, qE12, qE13, qE14, qE15, qE16, qE17, qE18, qE19, qE20, qE21, qE22, qEs1, qEs2, wpAll, qO1, qO2, qI1, qI2, qI3, w_add, w_addl, w_sub, w_mul, w_mull, w_fdiv, w_mod, w_pow, w_lt, w_le, w_gt, w_ge, w_eq, w_ne, w_eqt, w_eql, w_net, w_nel, w_isn, w_ist, w_isi, w_isl, w_abs, w_lent, w_lenl, w_intb, w_list, w_tuple, w_min, w_idxt0, w_idxt1, w_idxu0, w_idxu1, w_idxu2, w_idxl, w_slcl, w_slct, w_tb, w_ti, w_tn, w_tt, w_tl, w_itt, w_itl, w_bindT1, w_bindT2, w_srcl, w_srct, w_cut2, w_cut1, w_cut1', w_cut0, w_ty1, w_ty2, w_ty3, w_ty4, w_ty5, w_ty6, w_ty7, w_ty8, w_ty9, w_ty10, w_ty11, w_ty12, w_ty13, w_ty14, w_ty15, w_ty16, w_ty17, w_ty18, w_ty19, w_ty20, w_ty21, w_mapc, w_mapn, w_appc, w_appn, w_repc, w_repn, w_start, w_lenc, w_ifT, w_ifF, w_ifFF, w_ifTF, w_nT, w_nF, w_anyT, w_anyF, w_d22, ifSome_some, ifLst_lst, ifTup_tup, ifInt_int, lget, lset, lsets, Nat.reduceSub, Nat.reduceAdd, List.length_nil, ↓reduceIte]
          by_cases hj : j < dn.length
          · rw [decide_eq_true (Int.ofNat_lt.mpr hj)]
            refine ⟨m1, m2, ?_⟩
            rw [eb', ee]
            refine s_by eb (getKeep (preApp _ _) hd) (getApp _ _ _) hlen ?_ fun H3 kd' hp3 _ hd3 => ?_
            · intro y hy'
              exact ⟨IntMulOk.sm (hAll y hy') hb hK hL, IntMulOk.sm (hAll y hy') he hK hL⟩
            refine hk2 _ _ ⟨j + 1, t, kd', _, (Nat.succ_add_eq_add_succ j t).trans hjt, rfl, rfl, preTrans hpre2 (preTrans (preApp _ _) hp3), ?_⟩
            rw [hd3, Nat.sub_eq_zero_of_le (Nat.le_of_lt hj), Nat.sub_eq_zero_of_le hj, Nat.min_eq_left (Nat.le_of_lt hj), Nat.min_eq_left hj]
            rfl
          · rw [decide_eq_false (fun h => hj (Int.ofNat_lt.mp h))]
            refine ⟨m3, m3, ?_⟩
            rw [es]
            refine s_by eb (getKeep (preApp _ _) hd) (getApp _ _ _) hlen ?_ fun H3 kd' hp3 _ hd3 => ?_
            · intro y hy'
              have := IntMulOk.sm (hAll y hy') hs hK hL; exact ⟨this, this⟩
            refine hk2 _ _ ⟨j + 1, t, kd', _, (Nat.succ_add_eq_add_succ j t).trans hjt, rfl, rfl, preTrans hpre2 (preTrans (preApp _ _) hp3), ?_⟩
            have hj' := Nat.not_lt.mp hj
            rw [hd3, Nat.succ_sub hj', Nat.min_eq_right hj', Nat.min_eq_right (Nat.le_succ_of_le hj')]
            rfl
      · rintro ρ2 H2 ⟨j, t, kd, o3, hjt, hx2, rfl, hpre2, hd⟩
        cases t with
        | succ t => rw [List.range'_succ] at hx2; cases hx2
        | zero =>
          have hj : j = dn.length + td.length := hjt
          subst hj
          rw [Nat.add_sub_cancel_left, Nat.min_eq_right (Nat.le_add_right _ _)] at hd
          have hlx : acc.length = (mulN s s td.length (mulN b e' dn.length [c])).length := by rw [mulN_len, mulN_len, List.length_singleton, hacc, hrl, Nat.add_assoc, Nat.add_comm, Nat.add_assoc, Nat.add_comm td.length, Nat.add_comm]
          refine s_lzip rfl rfl rfl (getKeep (preTrans hpre hpre2) hm) (getKeep hpre2 hf) hd ?_ ?_ ?_ ?_
          · rw [List.length_map, hacc]
          · exact hlx
          · exact Nat.le_trans (Nat.le_of_eq hacc) (Nat.le_trans hl (by decide))
          refine hk _ _ ⟨dn ++ [c], td, _, _, _, _, _, by rw [hr1, List.append_assoc]; rfl, by rw [List.length_append]; rfl, rfl, preTrans hpre (preTrans hpre2 (preApp _ _)), getApp _ _ _, ?_, ?_⟩
          · rw [addL_len hlx, hacc]
          · rw [← hsum, addL_assoc, List.length_append]; rfl
      · rw [getApp, Nat.zero_sub, Nat.zero_min]; rfl
  · rintro ρ H' ⟨dn, td, kf, acc, o, o1, o2, hr1, hx, rfl, hpre, hf, hacc, hsum⟩
    cases td with
    | cons y td => rw [range'_len] at hx; cases hx
    | nil =>
      rw [List.append_nil] at hr1
      subst hr1
      refine hQ _ _ hpre ?_
      rw [← ls_eq, ← hsum, hf]
      show _ = some ((addL acc (zeros row.length)).map V.int)
      rw [← hacc, addL_comm, zeros_add]
  · rw [getApp, zeros, List.map_replicate, List.map_map]; congr 1; exact List.map_const' ..
  · rw [zeros, List.length_replicate]
  · have := @zeros_add (ls b e' s 0 row)
    rw [ls_eq, hs_len] at this
    show addL (zeros row.length) (ls b e' s 0 row) = _
    rw [ls_eq]; exact this

noncomputable def lLTurns : PS := (.seq (.ite (.cmp .lt (.bin .mul (.var 5) (.var 4)) (.cint 0)) (.seq (.assign 3 (.bin .add (.var 3) (.cint 1)))
 .skip) .skip)
 (.seq (.ite (.cmp .ne (.var 5) (.cint 0)) (.seq (.assign 4 (.var 5)) .skip) .skip) .skip))
noncomputable def bLTurns (se : Nat) : PS := (.seq (.assign 3 (.cint 0))
 (.seq (.assign 4 (.cint 0))
 (.seq (.forr 5 (.seq (.call se (.cons (.var 0) (.cons (.var 1) (.cons (.var 2) .nil))))) lLTurns)
 (.seq (.ret (.var 3)) .skip))))
theorem s_lturns {se by_ : Nat} (e0 : P[f]? = some ⟨3, 6, bLTurns se⟩) (e : P[se]? = some ⟨3, 7, bLSeen by_⟩) (eb : P[by_]? = some ⟨2, 5, bBy⟩) {m : Nat} {row : List Int} {p1 q1 p2 q2 : Int} {K L : Nat} (hm : H[m]? = some (row.map .int)) (hl : row.length ≤ 900)
    (hr : AllSm K row) (hb : Sm L (p1 * q2)) (he : Sm L (p2 * q1)) (hs : Sm L (q1 * q2)) (m1 : IntMulOk p1 q2) (m2 : IntMulOk p2 q1) (m3 : IntMulOk q1 q2) (hB : K + L + 2 + row.length * (L + 2) ≤ 1000000)
    (hQ : ∀ H', H <+: H' → Q (.int (tv 0 (Mine.hs (p1 * q2) (p2 * q1) (q1 * q2) row))) H') : callN sub P (n + 3) f [.lst m, .tup [.int p1, .int q1], .tup [.int p2, .int q2]] H Q X := by
  refine callN_mk e0 rfl ?_
  dsimp only [bLTurns, qS1, qS2, qS3, qS4, qS5, qS6, qS7, qS8, qS9, qS10, qS11, qS12, qS13, qS14, qS15, qS16, qS17, qS18, qE1, qE2, qE3, qE4, qE5, qE6, qE7, qE8, qE9, qE10, qE11, qE12, qE13, qE14, qE15, qE16, qE17, qE18, qE19, qE20, qE21, qE22, qEs1, qEs2, wpAll, qO1, qO2, qI1, qI2, qI3, w_add, w_addl, w_sub, w_mul, w_mull, w_fdiv, w_mod, w_pow, w_lt, w_le, w_gt, w_ge, w_eq, w_ne, w_eqt, w_eql, w_net, w_nel, w_isn, w_ist, w_isi, w_isl, w_abs, w_lent, w_lenl, w_intb, w_list, w_tuple, w_min, w_idxt0, w_idxt1, w_idxu0, w_idxu1, w_idxu2, w_idxl, w_slcl, w_slct, w_tb, w_ti, w_tn, w_tt, w_tl, w_itt, w_itl, w_bindT1, w_bindT2, w_srcl, w_srct, w_cut2, w_cut1, w_cut1', w_cut0, w_ty1, w_ty2, w_ty3, w_ty4, w_ty5, w_ty6, w_ty7, w_ty8, w_ty9, w_ty10, w_ty11, w_ty12, w_ty13, w_ty14, w_ty15, w_ty16, w_ty17, w_ty18, w_ty19, w_ty20, w_ty21, w_mapc, w_mapn, w_appc, w_appn, w_repc, w_repn, w_start, w_lenc, w_ifT, w_ifF, w_ifFF, w_ifTF, w_nT, w_nF, w_anyT, w_anyF, w_d22, ifSome_some, ifLst_lst, ifTup_tup, ifInt_int, lget, lset, lsets, Nat.reduceSub, Nat.reduceAdd, List.length_nil, ↓reduceIte]
  refine s_lseen e eb hm hl hr hb he hs m1 m2 m3 hB fun H1 k hp hk => ?_
  have hA := AllSm.hs hb he hs hr
  revert hA hQ hk
  generalize Mine.hs (p1 * q2) (p2 * q1) (q1 * q2) row = xs
  intro hQ hk hA
  refine ifSome.mk hk ?_
  refine forGo_rule (fun rest ρ H' => ∃ td many ahead o, rest = (td : List Int).map V.int ∧ ρ = [some (.lst m), some (.tup [.int p1, .int q1]), some (.tup [.int p2, .int q2]), some (.int many), some (.int ahead), o] ∧ H' = H1 ∧ many + tv ahead td = tv 0 xs ∧ AllSm 1000000 td ∧ Sm 1000000 ahead) ?_ ?_ _ _ _ ⟨xs, 0, 0, _, rfl, rfl, rfl, Int.zero_add _, hA.mono (by omega), Sm.zero⟩
  · rintro x rest ρ H' k' ⟨td, many, ahead, o, hx, rfl, rfl, hmm, ha, hah⟩ hk'
    cases td with
    | nil => cases hx
    | cons y td =>
      cases hx
      dsimp only [lLTurns, qS1, qS2, qS3, qS4, qS5, qS6, qS7, qS8, qS9, qS10, qS11, qS12, qS13, qS14, qS15, qS16, qS17, qS18, qE1, qE2, qE3, qE4, qE5, qE6, qE7, qE8, qE9, qE10, qE11, qE12, qE13, qE14, qE15, qE16, qE17, qE18, qE19, qE20, qE21, qE22, qEs1, qEs2, wpAll, qO1, qO2, qI1, qI2, qI3, w_add, w_addl, w_sub, w_mul, w_mull, w_fdiv, w_mod, w_pow, w_lt, w_le, w_gt, w_ge, w_eq, w_ne, w_eqt, w_eql, w_net, w_nel, w_isn, w_ist, w_isi, w_isl, w_abs, w_lent, w_lenl, w_intb, w_list, w_tuple, w_min, w_idxt0, w_idxt1, w_idxu0, w_idxu1, w_idxu2, w_idxl, w_slcl, w_slct, w_tb, w_ti, w_tn, w_tt, w_tl, w_itt, w_itl, w_bindT1, w_bindT2, w_srcl, w_srct, w_cut2, w_cut1, w_cut1', w_cut0, w_ty1, w_ty2, w_ty3, w_ty4, w_ty5, w_ty6, w_ty7, w_ty8, w_ty9, w_ty10, w_ty11, w_ty12, w_ty13, w_ty14, w_ty15, w_ty16, w_ty17, w_ty18, w_ty19, w_ty20, w_ty21, w_mapc, w_mapn, w_appc, w_appn, w_repc, w_repn, w_start, w_lenc, w_ifT, w_ifF, w_ifFF, w_ifTF, w_nT, w_nF, w_anyT, w_anyF, w_d22, ifSome_some, ifLst_lst, ifTup_tup, ifInt_int, lget, lset, lsets, Nat.reduceSub, Nat.reduceAdd, List.length_nil, ↓reduceIte]
      refine ⟨IntMulOk.sm ha.hd hah (by decide) (by decide), ?_⟩
      rw [Int.mul_comm]
      have key : ∀ many' : Int, many' = many + (if ahead * y < 0 then 1 else 0) → k' [some (.lst m), some (.tup [.int p1, .int q1]), some (.tup [.int p2, .int q2]), some (.int many'), some (.int (if y = 0 then ahead else y)), some (.int y)] H' := fun many' h => by
        refine hk' _ _ ⟨td, many', _, _, rfl, rfl, rfl, ?_, ha.tl, ?_⟩
        · rw [h, ← hmm, tv, Int.add_assoc]
        · split
          · exact hah
          · exact ha.hd
      by_cases hc : ahead * y < 0
      · rw [decide_eq_true hc]
        rw [if_pos hc] at key
        by_cases hy : y = 0
        · rw [decide_eq_true hy]; rw [if_pos hy] at key; exact key _ rfl
        · rw [decide_eq_false hy]; rw [if_neg hy] at key; exact key _ rfl
      · rw [decide_eq_false hc]
        rw [if_neg hc] at key
        by_cases hy : y = 0
        · rw [decide_eq_true hy]; rw [if_pos hy] at key; exact key _ (Int.add_zero _).symm
        · rw [decide_eq_false hy]; rw [if_neg hy] at key; exact key _ (Int.add_zero _).symm
  · rintro ρ H' ⟨td, many, ahead, o, hx, rfl, rfl, hmm, ha, hah⟩
    cases td with
    | cons y td => cases hx
    | nil =>
      rw [tv, Int.add_zero] at hmm
      subst hmm
      exact hQ _ hp
end
end Mine

set_option autoImplicit false
set_option linter.unusedVariables false
set_option linter.unusedSimpArgs false
set_option maxRecDepth 100000
namespace Mine
open PySem
theorem cut_len {a b n : Nat} : min (min (a + b) n) n - min a n ≤ b := by omega
theorem DivOk.sm {b : Int} (h : b ≠ 0) (hb : Sm 64 b) : DivOk b := ⟨h, hb.mono (l := 8999) (by decide)⟩
theorem fmod_sm {c d : Int} {k : Nat} (hd : 0 < d) (hk : d.natAbs < 2 ^ k) : Sm k (c.fmod d) := by
  have h := fmod_natAbs_lt (a := c) (Int.ne_of_gt hd)
  exact Nat.lt_trans h hk
theorem fmod_sub_sm {c d t : Int} {k : Nat} (hd : 0 < d) (ht : 0 ≤ t) (hk : d.natAbs + t.natAbs < 2 ^ k) : Sm k (c.fmod d - t) := by
  have h1 := Int.fmod_nonneg_of_pos c hd
  have h2 := Int.fmod_lt_of_pos c hd
  unfold Sm; omega
section
variable {sub : Nat → Nat → Bool} {P : List Fn} {f n ce pa dv : Nat} {H : Hp} {Q : V → Hp → Prop} {X : Nat → Hp → Prop}
noncomputable def lRow (ce : Nat) : PS := (.seq (.ite (.cmp .eq (.bin .mod (.call ce (.cons (.var 0) (.cons (.cint 1) .nil))) (.cint 4)) (.cint 1)) (.seq (.app 3 (.bin .sub (.bin .mod (.var 4) (.bin .mul (.cint 2) (.bin .pow (.cint 10) (.cint 20)))) (.bin .pow (.cint 10) (.cint 20))))
 .skip) (.seq (.app 3 (.bin .sub (.bin .mod (.var 4) (.cint 19)) (.cint 9)))
 .skip))
 .skip)
noncomputable def bRow (ce : Nat) : PS := (.seq (.assign 3 (.lst .nil))
 (.seq (.forr 4 (.seq (.slc (.var 0) (.some (.var 1)) (.some (.bin .add (.var 1) (.var 2))))) (lRow ce))
 (.seq (.ret (.var 3)) .skip)))
theorem s_row (e : P[f]? = some ⟨3, 5, bRow ce⟩) (ec : P[ce]? = some ⟨2, 2, bCell⟩) {m : Nat} {ns : List Int} {k many : Int} (hm : H[m]? = some (ns.map .int)) (hns : ns.length ≤ 63) (hk0 : 0 ≤ k) (hy0 : 0 ≤ many)
    (hQ : ∀ H' (xs : List Int), H <+: H' → H'[H.length]? = some (xs.map .int) → AllSm 70 xs → xs.length ≤ many.toNat → Q (.lst H.length) H') : callN sub P (n + 2) f [.lst m, .int k, .int many] H Q X := by
  refine callN_mk e rfl ?_
  dsimp only [bRow, qS1, qS2, qS3, qS4, qS5, qS6, qS7, qS8, qS9, qS10, qS11, qS12, qS13, qS14, qS15, qS16, qS17, qS18, qE1, qE2, qE3, qE4, qE5, qE6, qE7, qE8, qE9, qE10, qE11, qE12, qE13, qE14, qE15, qE16, qE17, qE18, qE19, qE20, qE21, qE22, qEs1, qEs2, wpAll, qO1, qO2, qI1, qI2, qI3, w_add, w_addl, w_sub, w_mul, w_mull, w_fdiv, w_mod, w_pow, w_lt, w_le, w_gt, w_ge, w_eq, w_ne, w_eqt, w_eql, w_net, w_nel, w_isn, w_ist, w_isi, w_isl, w_abs, w_lent, w_lenl, w_intb, w_list, w_tuple, w_min, w_idxt0, w_idxt1, w_idxu0, w_idxu1, w_idxu2, w_idxl, w_slcl, w_slct, w_tb, w_ti, w_tn, w_tt, w_tl, w_itt, w_itl, w_bindT1, w_bindT2, w_srcl, w_srct, w_cut2, w_cut1, w_cut1', w_cut0, w_ty1, w_ty2, w_ty3, w_ty4, w_ty5, w_ty6, w_ty7, w_ty8, w_ty9, w_ty10, w_ty11, w_ty12, w_ty13, w_ty14, w_ty15, w_ty16, w_ty17, w_ty18, w_ty19, w_ty20, w_ty21, w_mapc, w_mapn, w_appc, w_appn, w_repc, w_repn, w_start, w_lenc, w_ifT, w_ifF, w_ifFF, w_ifTF, w_nT, w_nF, w_anyT, w_anyF, w_d22, ifSome_some, ifLst_lst, ifTup_tup, ifInt_int, lget, lset, lsets, Nat.reduceSub, Nat.reduceAdd, List.length_nil, ↓reduceIte]
  refine ifSome.mk (getKeep (preApp _ _) hm) ?_
  rw [List.length_map]
  obtain ⟨cs, hcs, hcl, hcm⟩ : ∃ cs : List Int, cut (ns.map V.int) (clampAt ns.length k) (clampAt ns.length (k + many)) = cs.map V.int ∧ cs.length ≤ 63 ∧ cs.length ≤ many.toNat :=
    ⟨(ns.take (clampAt ns.length (k + many))).drop (clampAt ns.length k), by rw [cut, List.map_drop, List.map_take], by rw [List.length_drop, List.length_take]; omega, by
      rw [List.length_drop, List.length_take, clamp_pos hk0, clamp_pos (Int.add_nonneg hk0 hy0), Int.toNat_add hk0 hy0]; exact cut_len⟩
  rw [hcs]
  refine ifSome.mk (v := cs.map V.int) (getApp _ _ _) ?_
  have el : (H ++ [([] : List V)]).length = H.length + 1 := by simp
  have eh : H ++ [[]] ++ [cs.map V.int] = H ++ ([] : List V) :: [cs.map V.int] := by rw [List.append_assoc]; rfl
  rw [el, eh]
  refine forGo_rule (fun rest ρ H' => ∃ td xs o, rest = (td : List Int).map V.int ∧ ρ = [some (.lst m), some (.int k), some (.int many), some (.lst H.length), o] ∧ H' = H ++ ((xs : List Int).map V.int) :: [cs.map V.int] ∧ xs.length + td.length = cs.length ∧ AllSm 70 xs) ?_ ?_ _ _ _ ⟨cs, [], _, rfl, rfl, rfl, Nat.zero_add _, .nil⟩
  · rintro x rest ρ H' k' ⟨td, xs, o, hx, rfl, rfl, hlen, ha⟩ hk'
    cases td with
    | nil => cases hx
    | cons y td =>
      cases hx
      rw [List.length_cons] at hlen
      have key : ∀ z : Int, Sm 70 z → k' [some (.lst m), some (.int k), some (.int many), some (.lst H.length), some (.int y)] ((H ++ (xs.map V.int) :: [cs.map V.int]).set H.length (xs.map V.int ++ [.int z])) := fun z hz => by
        rw [setApp]
        refine hk' _ _ ⟨td, xs ++ [z], _, rfl, rfl, by rw [List.map_append]; rfl, by rw [List.length_append, ← hlen]; simp; omega, ?_⟩
        intro t ht
        rcases List.mem_append.mp ht with ht | ht
        · exact ha t ht
        · rw [List.mem_singleton.mp ht]; exact hz
      have hxl : (xs.map V.int).length < lim := by rw [List.length_map]; unfold lim; omega
      dsimp only [lRow, qS1, qS2, qS3, qS4, qS5, qS6, qS7, qS8, qS9, qS10, qS11, qS12, qS13, qS14, qS15, qS16, qS17, qS18, qE1, qE2, qE3, qE4, qE5, qE6, qE7, qE8, qE9, qE10, qE11, qE12, qE13, qE14, qE15, qE16, qE17, qE18, qE19, qE20, qE21, qE22, qEs1, qEs2, wpAll, qO1, qO2, qI1, qI2, qI3, w_add, w_addl, w_sub, w_mul, w_mull, w_fdiv, w_mod, w_pow, w_lt, w_le, w_gt, w_ge, w_eq, w_ne, w_eqt, w_eql, w_net, w_nel, w_isn, w_ist, w_isi, w_isl, w_abs, w_lent, w_lenl, w_intb, w_list, w_tuple, w_min, w_idxt0, w_idxt1, w_idxu0, w_idxu1, w_idxu2, w_idxl, w_slcl, w_slct, w_tb, w_ti, w_tn, w_tt, w_tl, w_itt, w_itl, w_bindT1, w_bindT2, w_srcl, w_srct, w_cut2, w_cut1, w_cut1', w_cut0, w_ty1, w_ty2, w_ty3, w_ty4, w_ty5, w_ty6, w_ty7, w_ty8, w_ty9, w_ty10, w_ty11, w_ty12, w_ty13, w_ty14, w_ty15, w_ty16, w_ty17, w_ty18, w_ty19, w_ty20, w_ty21, w_mapc, w_mapn, w_appc, w_appn, w_repc, w_repn, w_start, w_lenc, w_ifT, w_ifF, w_ifFF, w_ifTF, w_nT, w_nF, w_anyT, w_anyF, w_d22, ifSome_some, ifLst_lst, ifTup_tup, ifInt_int, lget, lset, lsets, Nat.reduceSub, Nat.reduceAdd, List.length_nil, ↓reduceIte]
      refine s_cell ec (ns := ns) (by decide) (getKeep (preApp _ _) hm) ?_
      refine ⟨by decide, ?_⟩
      dsimp only [qS1, qS2, qS3, qS4, qS5, qS6, qS7, qS8, qS9, qS10, qS11, qS12, qS13, qS14, qS15, qS16, qS17, qS18, qE1, qE2, qE3, qE4, qE5, qE6, qE7, qE8, qE9, qE10, qE11, qE12, qE13, qE14, qE15, qE16, qE17, qE18, qE19, qE20, qE21, qE22, qEs1, qEs2, wpAll, qO1, qO2, qI1, qI2, qI3, w_add, w_addl, w_sub, w_mul, w_mull, w_fdiv, w_mod, w_pow, w_lt, w_le, w_gt, w_ge, w_eq, w_ne, w_eqt, w_eql, w_net, w_nel, w_isn, w_ist, w_isi, w_isl, w_abs, w_lent, w_lenl, w_intb, w_list, w_tuple, w_min, w_idxt0, w_idxt1, w_idxu0, w_idxu1, w_idxu2, w_idxl, w_slcl, w_slct, w_tb, w_ti, w_tn, w_tt, w_tl, w_itt, w_itl, w_bindT1, w_bindT2, w_srcl, w_srct, w_cut2, w_cut1, w_cut1', w_cut0, w_ty1, w_ty2, w_ty3, w_ty4, w_ty5, w_ty6, w_ty7, w_ty8, w_ty9, w_ty10, w_ty11, w_ty12, w_ty13, w_ty14, w_ty15, w_ty16, w_ty17, w_ty18, w_ty19, w_ty20, w_ty21, w_mapc, w_mapn, w_appc, w_appn, w_repc, w_repn, w_start, w_lenc, w_ifT, w_ifF, w_ifFF, w_ifTF, w_nT, w_nF, w_anyT, w_anyF, w_d22, ifSome_some, ifLst_lst, ifTup_tup, ifInt_int, lget, lset, lsets, Nat.reduceSub, Nat.reduceAdd, List.length_nil, ↓reduceIte]
      by_cases h : (cellI ns (1 : Int).toNat).fmod 4 = 1
      · rw [decide_eq_true h, if_pos rfl]
        refine ⟨⟨Nat.le_refl _, fun h => Nat.ne_of_lt (Nat.lt_succ_self _) (Option.some.inj h)⟩, by decide, by decide, by decide, IntMulOk.left (show Sm 64 2 by unfold Sm; decide), by decide, by decide, by decide, by decide, ?_⟩
        exact ifSome.mk (getApp _ _ _) ⟨hxl, key _ (fmod_sub_sm (by decide) (by decide) (by decide))⟩
      · rw [decide_eq_false h, if_neg Bool.false_ne_true]
        refine ⟨⟨Nat.le_refl _, fun h => Nat.ne_of_lt (Nat.lt_succ_self _) (Option.some.inj h)⟩, by decide, ?_⟩
        exact ifSome.mk (getApp _ _ _) ⟨hxl, key _ (fmod_sub_sm (by decide) (by decide) (by decide))⟩
  · rintro ρ H' ⟨td, xs, o, hx, rfl, rfl, hlen, ha⟩
    cases td with
    | cons y td => cases hx
    | nil => exact hQ _ xs (preApp _ _) (getApp _ _ _) ha (by rw [List.length_nil] at hlen; omega)

noncomputable def bEnd (pa : Nat) : PS := (.seq (.ite (.cmp .eq (.bin .mod (.var 1) (.cint 5)) (.cint 1)) (.seq (.ret (.call pa (.cons (.bin .sub (.bin .mod (.var 0) (.bin .mul (.cint 2) (.bin .pow (.cint 10) (.cint 12)))) (.bin .pow (.cint 10) (.cint 12))) (.cons (.bin .add (.cint 1) (.bin .mod (.bin .fdiv (.var 1) (.cint 5)) (.bin .pow (.cint 10) (.cint 12)))) .nil))))
 .skip) .skip)
 (.seq (.ret (.call pa (.cons (.bin .sub (.bin .mod (.var 0) (.cint 41)) (.cint 20)) (.cons (.bin .add (.cint 1) (.bin .mod (.bin .fdiv (.var 1) (.cint 5)) (.cint 9))) .nil)))) .skip))
/-- the lowest form of a by b -/
structure Low (k : Nat) (p q : Int) : Prop where
  top : Sm k p
  bot : Sm k q
  pos : 0 < q
  one : p.gcd q = 1
theorem low_of {k : Nat} {a b p q : Int} (ha : Sm k a) (hb : Sm k b) (h0 : 0 < b) (e1 : p * (a.gcd b : Nat) = a) (e2 : q * (a.gcd b : Nat) = b) : Low k p q := by
  have hg : 0 < a.gcd b := Int.gcd_pos_of_ne_zero_right a (Int.ne_of_gt h0)
  have hg' : (0 : Int) < (a.gcd b : Nat) := Int.natCast_pos.mpr hg
  refine ⟨?_, ?_, ?_, ?_⟩
  · refine Nat.lt_of_le_of_lt ?_ ha
    rw [show a.natAbs = (p * (a.gcd b : Nat)).natAbs by rw [e1], Int.natAbs_mul, Int.natAbs_natCast]; exact Nat.le_mul_of_pos_right _ hg
  · refine Nat.lt_of_le_of_lt ?_ hb
    rw [show b.natAbs = (q * (a.gcd b : Nat)).natAbs by rw [e2], Int.natAbs_mul, Int.natAbs_natCast]; exact Nat.le_mul_of_pos_right _ hg
  · exact Int.pos_of_mul_pos_left (by rw [e2]; exact h0) hg'
  · have h : p.gcd q * a.gcd b = 1 * a.gcd b := by
      have := Int.gcd_mul_right p (a.gcd b : Nat) q
      rw [e1, e2, Int.natAbs_natCast] at this
      rw [← this, Nat.one_mul]
    exact Nat.eq_of_mul_eq_mul_right hg h
theorem s_end (e : P[f]? = some ⟨2, 2, bEnd pa⟩) (ep : P[pa]? = some ⟨2, 3, bPart dv⟩) (ed : P[dv]? = some ⟨2, 3, bDiv⟩) {c d : Int} (hQ : ∀ p q : Int, Low 60 p q → Q (.tup [.int p, .int q]) H) : callN sub P (n + 3) f [.int c, .int d] H Q X := by
  refine callN_mk e rfl ?_
  dsimp only [bEnd, qS1, qS2, qS3, qS4, qS5, qS6, qS7, qS8, qS9, qS10, qS11, qS12, qS13, qS14, qS15, qS16, qS17, qS18, qE1, qE2, qE3, qE4, qE5, qE6, qE7, qE8, qE9, qE10, qE11, qE12, qE13, qE14, qE15, qE16, qE17, qE18, qE19, qE20, qE21, qE22, qEs1, qEs2, wpAll, qO1, qO2, qI1, qI2, qI3, w_add, w_addl, w_sub, w_mul, w_mull, w_fdiv, w_mod, w_pow, w_lt, w_le, w_gt, w_ge, w_eq, w_ne, w_eqt, w_eql, w_net, w_nel, w_isn, w_ist, w_isi, w_isl, w_abs, w_lent, w_lenl, w_intb, w_list, w_tuple, w_min, w_idxt0, w_idxt1, w_idxu0, w_idxu1, w_idxu2, w_idxl, w_slcl, w_slct, w_tb, w_ti, w_tn, w_tt, w_tl, w_itt, w_itl, w_bindT1, w_bindT2, w_srcl, w_srct, w_cut2, w_cut1, w_cut1', w_cut0, w_ty1, w_ty2, w_ty3, w_ty4, w_ty5, w_ty6, w_ty7, w_ty8, w_ty9, w_ty10, w_ty11, w_ty12, w_ty13, w_ty14, w_ty15, w_ty16, w_ty17, w_ty18, w_ty19, w_ty20, w_ty21, w_mapc, w_mapn, w_appc, w_appn, w_repc, w_repn, w_start, w_lenc, w_ifT, w_ifF, w_ifFF, w_ifTF, w_nT, w_nF, w_anyT, w_anyF, w_d22, ifSome_some, ifLst_lst, ifTup_tup, ifInt_int, lget, lset, lsets, Nat.reduceSub, Nat.reduceAdd, List.length_nil, ↓reduceIte]
  refine ⟨by decide, ?_⟩
  have key : ∀ a b : Int, ∀ X', Sm 59 a → 0 ≤ b → Sm 59 b → callN sub P (n + 2) pa [.int a, .int (1 + b)] H Q X' := fun a b X' ha hb0 hb => by
    have hb1 : Sm 60 (1 + b) := Sm.add (Sm.one (k := 58)) hb
    refine s_part ep ed (by omega) (hb1.mono (by decide)) fun p q e1 e2 => hQ p q (low_of (ha.mono (by decide)) hb1 (by omega) e1 e2)
  by_cases h : d.fmod 5 = 1
  · rw [decide_eq_true h, if_pos rfl]
    refine ⟨by decide, by decide, by decide, IntMulOk.left (show Sm 64 2 by unfold Sm; decide), by decide, by decide, by decide, by decide, DivOk.sm (by decide) (by unfold Sm; decide), by decide, by decide, by decide, by decide, ?_⟩
    exact key _ _ _ (fmod_sub_sm (by decide) (by decide) (by decide)) (Int.fmod_nonneg_of_pos _ (by decide)) (fmod_sm (by decide) (by decide))
  · rw [decide_eq_false h, if_neg Bool.false_ne_true]
    refine ⟨by decide, DivOk.sm (by decide) (by unfold Sm; decide), by decide, ?_⟩
    exact key _ _ _ (fmod_sub_sm (by decide) (by decide) (by decide)) (Int.fmod_nonneg_of_pos _ (by decide)) (fmod_sm (by decide) (by decide))
end
end Mine

set_option autoImplicit false
set_option linter.unusedVariables false
set_option linter.unusedSimpArgs false
set_option maxRecDepth 100000
namespace Mine
open PySem
theorem eqWp_pair {H : Hp} {a b c d : Int} {Q : Bool → Prop} (h : Q (decide (a = c ∧ b = d))) : eqWp (.tup [.int a, .int b]) (.tup [.int c, .int d]) H Q := by
  refine ⟨_, _, rfl, rfl, ?_⟩
  have e : PyData.eqv (.tuple [.int a, .int b]) (.tuple [.int c, .int d]) = decide (a = c ∧ b = d) := by
    rw [PyData.eqv]
    have := eqvAll_ints [a, b] [c, d]
    rw [List.map_cons, List.map_cons, List.map_nil] at this
    rw [show PyData.eqvAll [.int a, .int b] [.int c, .int d] = decide ([a, b] = [c, d]) from this]
    simp
  show Q (PyData.eqv (.tuple [.int a, .int b]) (.tuple [.int c, .int d]))
  rw [e]; exact h

/-! plain: the row by its divisor -/
noncomputable def gAll : List Int → Nat → Nat
  | [], g => g
  | x :: r, g => gAll r (Nat.gcd g x.natAbs)
theorem gAll_dvd : ∀ (r : List Int) (g : Nat), gAll r g ∣ g ∧ ∀ x ∈ r, gAll r g ∣ x.natAbs
  | [], g => ⟨Nat.dvd_refl _, fun x hx => nomatch hx⟩
  | y :: r, g => by
    obtain ⟨h1, h2⟩ := gAll_dvd r (Nat.gcd g y.natAbs)
    refine ⟨Nat.dvd_trans h1 (Nat.gcd_dvd_left _ _), fun x hx => ?_⟩
    rcases List.mem_cons.mp hx with rfl | hx
    · exact Nat.dvd_trans h1 (Nat.gcd_dvd_right _ _)
    · exact h2 x hx
theorem gAll_mul (c : Nat) : ∀ (r : List Int) (s : Int) (g : Nat), s.natAbs = c → gAll (r.map fun x => x * s) (g * c) = gAll r g * c
  | [], s, g, _ => rfl
  | x :: r, s, g, h => by
    show gAll (r.map fun x => x * s) (Nat.gcd (g * c) (x * s).natAbs) = _
    rw [Int.natAbs_mul, h, Nat.gcd_mul_right, gAll_mul c r s _ h]; rfl
/-- the divisor with the last one's sign -/
noncomputable def gOf (r : List Int) (l : Int) : Int := if l < 0 then -(gAll r 0 : Int) else (gAll r 0 : Int)
noncomputable def redI (r : List Int) (l : Int) : List Int := r.map fun x => x.fdiv (gOf r l)
theorem gOf_abs {r : List Int} {l : Int} : (gOf r l).natAbs = gAll r 0 := by unfold gOf; split <;> omega
theorem gAll_pos {r : List Int} {l : Int} (hl : l ∈ r) (h0 : l ≠ 0) : 0 < gAll r 0 := Nat.pos_of_dvd_of_pos ((gAll_dvd r 0).2 l hl) (Int.natAbs_pos.mpr h0)
theorem gOf_ne {r : List Int} {l : Int} (hl : l ∈ r) (h0 : l ≠ 0) : gOf r l ≠ 0 := by
  have := gAll_pos hl h0
  have h := @gOf_abs r l
  intro e; rw [e] at h; simp at h; omega
theorem gOf_dvd {r : List Int} {l x : Int} (hx : x ∈ r) : gOf r l ∣ x := Int.natAbs_dvd_natAbs.mp (by rw [gOf_abs]; exact (gAll_dvd r 0).2 x hx)
theorem redI_mul {r : List Int} {l : Int} : (redI r l).map (fun x => x * gOf r l) = r := by
  unfold redI
  rw [List.map_map]
  conv => rhs; rw [← List.map_id r]
  apply List.map_congr_left
  intro x hx
  exact Int.fdiv_mul_cancel (gOf_dvd hx)
theorem redI_len {r : List Int} {l : Int} : (redI r l).length = r.length := List.length_map ..
theorem redI_gcd {r : List Int} {l : Int} (hl : l ∈ r) (h0 : l ≠ 0) : gAll (redI r l) 0 = 1 := by
  have h := gAll_mul (gOf r l).natAbs (redI r l) (gOf r l) 0 rfl
  rw [redI_mul, Nat.zero_mul, gOf_abs] at h
  exact (Nat.eq_of_mul_eq_mul_right (gAll_pos hl h0) (by rw [Nat.one_mul]; exact h)).symm
theorem redI_last {r : List Int} {l : Int} (hl : l ∈ r) (h0 : l ≠ 0) : 0 < l.fdiv (gOf r l) := by
  have hg := gAll_pos hl h0
  have e := Int.fdiv_mul_cancel (gOf_dvd (l := l) hl)
  by_cases h : l < 0
  · have hg0 : gOf r l < 0 := by unfold gOf; rw [if_pos h]; omega
    exact Int.not_le.mp fun hle => by
      have := Int.mul_nonneg_of_nonpos_of_nonpos hle (Int.le_of_lt hg0)
      rw [e] at this; omega
  · have hg0 : 0 < gOf r l := by unfold gOf; rw [if_neg h]; omega
    exact Int.pos_of_mul_pos_left (by rw [e]; omega) hg0
/-- a row by its divisor stays -/
theorem redI_one {r : List Int} {l : Int} (h : gAll r 0 = 1) (hl : 0 < l) : redI r l = r := by
  have hg : gOf r l = 1 := by unfold gOf; rw [if_neg (by omega), h]; rfl
  unfold redI
  rw [hg]
  conv => rhs; rw [← List.map_id r]
  apply List.map_congr_left
  intro x _
  exact Int.fdiv_one x
theorem redI_sm {r : List Int} {l : Int} {k : Nat} (hl : l ∈ r) (h0 : l ≠ 0) (h : AllSm k r) : AllSm k (redI r l) := fun x hx => by
  obtain ⟨y, hy, rfl⟩ := List.mem_map.mp hx
  refine Nat.lt_of_le_of_lt ?_ (h y hy)
  have e := Int.fdiv_mul_cancel (gOf_dvd (l := l) hy)
  have := gAll_pos hl h0
  rw [show y.natAbs = (y.fdiv (gOf r l) * gOf r l).natAbs by rw [e], Int.natAbs_mul, gOf_abs]
  exact Nat.le_mul_of_pos_right _ this

theorem hval_mul (p q g : Int) : ∀ r : List Int, hval p q (r.map fun x => x * g) = hval p q r * g
  | [] => by simp [hval]
  | c :: r => by
    rw [List.map_cons, hval, hval, hval_mul p q g r, List.length_map]; grind
theorem smul_eq {g : Int} {r : List Int} : (r.map fun x => x * g) = smul g r := List.map_congr_left fun x _ => Int.mul_comm x g
theorem smul_smul {a b : Int} {r : List Int} : smul a (smul b r) = smul (a * b) r := by
  unfold smul; rw [List.map_map]; apply List.map_congr_left; intro x _; exact (Int.mul_assoc a b x).symm
theorem smul_add {a : Int} : ∀ {xs ys : List Int}, smul a (addL xs ys) = addL (smul a xs) (smul a ys)
  | [], _ => by simp [smul, addL]
  | _ :: _, [] => by simp [smul, addL]
  | x :: r, y :: t => by
    show a * (x + y) :: smul a (addL r t) = (a * x + a * y) :: addL (smul a r) (smul a t)
    rw [smul_add, Int.mul_add]
theorem hs_smul {b e s g : Int} : ∀ {r : List Int}, hs b e s (smul g r) = smul g (hs b e s r)
  | [] => rfl
  | c :: r => by
    show addL (mulG b e 0 (hs b e s (smul g r))) (smul (g * c) (mulN s s (smul g r).length [1])) = smul g (addL (mulG b e 0 (hs b e s r)) (smul c (mulN s s r.length [1])))
    rw [hs_smul, smul_add, smul_smul, show (smul g r).length = r.length from List.length_map .., show (0 : Int) = g * 0 from (Int.mul_zero g).symm, mulG_smul, Int.mul_zero]
theorem mul_neg_iff {a b g : Int} (hg : g ≠ 0) : (g * a) * (g * b) < 0 ↔ a * b < 0 := by
  have e : (g * a) * (g * b) = (g * g) * (a * b) := by grind
  have hp : 0 < g * g := by
    rcases Int.lt_or_gt_of_ne hg with h | h
    · exact Int.mul_pos_of_neg_of_neg h h
    · exact Int.mul_pos h h
  rw [e]
  constructor
  · intro h; exact Int.not_le.mp fun hle => by have := Int.mul_nonneg (Int.le_of_lt hp) hle; omega
  · intro h; exact Int.mul_neg_of_pos_of_neg hp h
theorem tv_smul {g : Int} (hg : g ≠ 0) : ∀ (r : List Int) (l : Int), tv (g * l) (smul g r) = tv l r
  | [], _ => rfl
  | x :: r, l => by
    show (if (g * l) * (g * x) < 0 then 1 else 0) + tv (if g * x = 0 then g * l else g * x) (smul g r) = (if l * x < 0 then 1 else 0) + tv (if x = 0 then l else x) r
    have h0 : (g * x = 0) ↔ x = 0 := ⟨fun h => (Int.mul_eq_zero.mp h).resolve_left hg, fun h => by rw [h, Int.mul_zero]⟩
    have e2 : (if g * x = 0 then g * l else g * x) = g * (if x = 0 then l else x) := by
      by_cases hx : x = 0
      · rw [if_pos hx, if_pos (h0.mpr hx)]
      · rw [if_neg hx, if_neg (fun h => hx (h0.mp h))]
    rw [e2, tv_smul hg r]
    by_cases hc : l * x < 0
    · rw [if_pos hc, if_pos ((mul_neg_iff hg).mpr hc)]
    · rw [if_neg hc, if_neg (fun h => hc ((mul_neg_iff hg).mp h))]
theorem tv_red {b e s : Int} {r : List Int} {l : Int} (hl : l ∈ r) (h0 : l ≠ 0) : tv 0 (hs b e s (redI r l)) = tv 0 (hs b e s r) := by
  have hr : r = smul (gOf r l) (redI r l) := by rw [← smul_eq, redI_mul]
  conv => rhs; rw [hr, hs_smul]
  have := tv_smul (gOf_ne hl h0) (hs b e s (redI r l)) 0
  rw [Int.mul_zero] at this; exact this.symm
theorem hval_red {p q : Int} {r : List Int} {l : Int} (hl : l ∈ r) (h0 : l ≠ 0) : hval p q (redI r l) = 0 ↔ hval p q r = 0 := by
  have h := hval_mul p q (gOf r l) (redI r l)
  rw [redI_mul] at h
  rw [h]
  exact ⟨fun e => by rw [e, Int.zero_mul], fun e => (Int.mul_eq_zero.mp e).resolve_right (gOf_ne hl h0)⟩
theorem sgn_zero {x : Int} : sgn x = 0 ↔ x = 0 := by
  unfold sgn
  constructor
  · intro h
    by_cases h1 : x < 0
    · rw [if_pos h1] at h; omega
    · rw [if_neg h1] at h
      by_cases h2 : 0 < x
      · rw [if_pos h2] at h; omega
      · omega
  · intro h; subst h; rfl

section
variable {sub : Nat → Nat → Bool} {P : List Fn} {f n dv pa : Nat} {H : Hp} {Q : V → Hp → Prop} {X : Nat → Hp → Prop}
noncomputable def bPDiv : PS := (.seq (.assign 0 (.bi .abs (.cons (.var 0) .nil)))
 (.seq (.assign 1 (.bi .abs (.cons (.var 1) .nil)))
 (.seq (.whl (.cmp .gt (.var 1) (.cint 0)) (.seq (.assign 2 (.bin .mod (.var 0) (.var 1))) (.seq (.assign 0 (.var 1)) (.seq (.assign 1 (.var 2)) .skip))))
 (.seq (.ret (.var 0)) .skip))))
theorem s_pdiv (e : P[f]? = some ⟨2, 3, bPDiv⟩) {a b : Int} (hQ : Q (.int (a.gcd b : Nat)) H) : callN sub P (n + 1) f [.int a, .int b] H Q X := by
  refine callN_mk e rfl ?_
  dsimp only [bPDiv, qS1, qS2, qS3, qS4, qS5, qS6, qS7, qS8, qS9, qS10, qS11, qS12, qS13, qS14, qS15, qS16, qS17, qS18, qE1, qE2, qE3, qE4, qE5, qE6, qE7, qE8, qE9, qE10, qE11, qE12, qE13, qE14, qE15, qE16, qE17, qE18, qE19, qE20, qE21, qE22, qEs1, qEs2, wpAll, qO1, qO2, qI1, qI2, qI3, w_add, w_addl, w_sub, w_mul, w_mull, w_fdiv, w_mod, w_pow, w_lt, w_le, w_gt, w_ge, w_eq, w_ne, w_eqt, w_eql, w_net, w_nel, w_isn, w_ist, w_isi, w_isl, w_abs, w_lent, w_lenl, w_intb, w_list, w_tuple, w_min, w_idxt0, w_idxt1, w_idxu0, w_idxu1, w_idxu2, w_idxl, w_slcl, w_slct, w_tb, w_ti, w_tn, w_tt, w_tl, w_itt, w_itl, w_bindT1, w_bindT2, w_srcl, w_srct, w_cut2, w_cut1, w_cut1', w_cut0, w_ty1, w_ty2, w_ty3, w_ty4, w_ty5, w_ty6, w_ty7, w_ty8, w_ty9, w_ty10, w_ty11, w_ty12, w_ty13, w_ty14, w_ty15, w_ty16, w_ty17, w_ty18, w_ty19, w_ty20, w_ty21, w_mapc, w_mapn, w_appc, w_appn, w_repc, w_repn, w_start, w_lenc, w_ifT, w_ifF, w_ifFF, w_ifTF, w_nT, w_nF, w_anyT, w_anyF, w_d22, ifSome_some, ifLst_lst, ifTup_tup, ifInt_int, lget, lset, lsets, Nat.reduceSub, Nat.reduceAdd, List.length_nil, ↓reduceIte]
  have ha : ∀ x : Int, (if x < 0 then -x else x) = (x.natAbs : Int) := fun x => by split <;> omega
  rw [ha, ha]
  refine ⟨fun ρ H' => ∃ x y : Nat, ∃ o, ρ = [some (.int x), some (.int y), o] ∧ H' = H ∧ x.gcd y = a.gcd b, fun ρ _ => natAt ρ 1, ⟨a.natAbs, b.natAbs, _, rfl, rfl, rfl⟩, ?_⟩
  rintro ρ H' ⟨x, y, o, rfl, rfl, hg⟩
  dsimp only [qS1, qS2, qS3, qS4, qS5, qS6, qS7, qS8, qS9, qS10, qS11, qS12, qS13, qS14, qS15, qS16, qS17, qS18, qE1, qE2, qE3, qE4, qE5, qE6, qE7, qE8, qE9, qE10, qE11, qE12, qE13, qE14, qE15, qE16, qE17, qE18, qE19, qE20, qE21, qE22, qEs1, qEs2, wpAll, qO1, qO2, qI1, qI2, qI3, w_add, w_addl, w_sub, w_mul, w_mull, w_fdiv, w_mod, w_pow, w_lt, w_le, w_gt, w_ge, w_eq, w_ne, w_eqt, w_eql, w_net, w_nel, w_isn, w_ist, w_isi, w_isl, w_abs, w_lent, w_lenl, w_intb, w_list, w_tuple, w_min, w_idxt0, w_idxt1, w_idxu0, w_idxu1, w_idxu2, w_idxl, w_slcl, w_slct, w_tb, w_ti, w_tn, w_tt, w_tl, w_itt, w_itl, w_bindT1, w_bindT2, w_srcl, w_srct, w_cut2, w_cut1, w_cut1', w_cut0, w_ty1, w_ty2, w_ty3, w_ty4, w_ty5, w_ty6, w_ty7, w_ty8, w_ty9, w_ty10, w_ty11, w_ty12, w_ty13, w_ty14, w_ty15, w_ty16, w_ty17, w_ty18, w_ty19, w_ty20, w_ty21, w_mapc, w_mapn, w_appc, w_appn, w_repc, w_repn, w_start, w_lenc, w_ifT, w_ifF, w_ifFF, w_ifTF, w_nT, w_nF, w_anyT, w_anyF, w_d22, ifSome_some, ifLst_lst, ifTup_tup, ifInt_int, lget, lset, lsets, Nat.reduceSub, Nat.reduceAdd, List.length_nil, ↓reduceIte]
  by_cases hy : y = 0
  · subst hy
    rw [Nat.gcd_zero_right] at hg
    subst hg
    exact hQ
  · have h0 : (0 : Int) < (y : Int) := Int.natCast_pos.mpr (Nat.pos_of_ne_zero hy)
    rw [decide_eq_true h0]
    refine ⟨Int.ne_of_gt h0, ⟨y, x % y, some (.int ((x : Int).fmod (y : Int))), ?_, rfl, ?_⟩, fmod_natAbs_lt (Int.ne_of_gt h0)⟩
    · rw [show ((x % y : Nat) : Int) = (x : Int).fmod (y : Int) by rw [Int.fmod_eq_emod_of_nonneg _ (Int.le_of_lt h0)]; rfl]
    · rw [← hg, Nat.gcd_comm x y, Nat.gcd_rec y x, Nat.gcd_comm]
theorem gcd_ok {a b : Int} (hb : 0 < b) (hs : Sm 1000 b) : DivOk ((a.gcd b : Nat) : Int) := by
  have h0 : 0 < a.gcd b := Int.gcd_pos_of_ne_zero_right a (Int.ne_of_gt hb)
  have hle : a.gcd b ≤ b.natAbs := Nat.le_of_dvd (Int.natAbs_pos.mpr (Int.ne_of_gt hb)) (Int.natAbs_dvd_natAbs.mpr (Int.gcd_dvd_right a b))
  exact ⟨Int.natCast_ne_zero.mpr (Nat.ne_of_gt h0), Nat.lt_of_le_of_lt hle (hs.mono (by decide))⟩
/-- part, the bottom above nought -/
noncomputable def bPPart (dv : Nat) : PS := (.seq (.ite (.cmp .eq (.var 1) (.cint 0)) (.seq (.raise 1) .skip) .skip)
 (.seq (.assign 2 (.call dv (.cons (.var 0) (.cons (.var 1) .nil))))
 (.seq (.ite (.cmp .lt (.var 1) (.cint 0)) (.seq (.assign 2 (.neg (.var 2))) .skip) .skip)
 (.seq (.ret (.tup (.cons (.bin .fdiv (.var 0) (.var 2)) (.cons (.bin .fdiv (.var 1) (.var 2)) .nil)))) .skip))))
theorem s_ppart (e : P[f]? = some ⟨2, 3, bPPart dv⟩) (ed : P[dv]? = some ⟨2, 3, bPDiv⟩) {a b : Int} (hb : 0 < b) (hs : Sm 1000 b) (hQ : Q (.tup [.int (a.fdiv ((a.gcd b : Nat) : Int)), .int (b.fdiv ((a.gcd b : Nat) : Int))]) H) : callN sub P (n + 2) f [.int a, .int b] H Q X := by
  refine callN_mk e rfl ?_
  dsimp only [bPPart, qS1, qS2, qS3, qS4, qS5, qS6, qS7, qS8, qS9, qS10, qS11, qS12, qS13, qS14, qS15, qS16, qS17, qS18, qE1, qE2, qE3, qE4, qE5, qE6, qE7, qE8, qE9, qE10, qE11, qE12, qE13, qE14, qE15, qE16, qE17, qE18, qE19, qE20, qE21, qE22, qEs1, qEs2, wpAll, qO1, qO2, qI1, qI2, qI3, w_add, w_addl, w_sub, w_mul, w_mull, w_fdiv, w_mod, w_pow, w_lt, w_le, w_gt, w_ge, w_eq, w_ne, w_eqt, w_eql, w_net, w_nel, w_isn, w_ist, w_isi, w_isl, w_abs, w_lent, w_lenl, w_intb, w_list, w_tuple, w_min, w_idxt0, w_idxt1, w_idxu0, w_idxu1, w_idxu2, w_idxl, w_slcl, w_slct, w_tb, w_ti, w_tn, w_tt, w_tl, w_itt, w_itl, w_bindT1, w_bindT2, w_srcl, w_srct, w_cut2, w_cut1, w_cut1', w_cut0, w_ty1, w_ty2, w_ty3, w_ty4, w_ty5, w_ty6, w_ty7, w_ty8, w_ty9, w_ty10, w_ty11, w_ty12, w_ty13, w_ty14, w_ty15, w_ty16, w_ty17, w_ty18, w_ty19, w_ty20, w_ty21, w_mapc, w_mapn, w_appc, w_appn, w_repc, w_repn, w_start, w_lenc, w_ifT, w_ifF, w_ifFF, w_ifTF, w_nT, w_nF, w_anyT, w_anyF, w_d22, ifSome_some, ifLst_lst, ifTup_tup, ifInt_int, lget, lset, lsets, Nat.reduceSub, Nat.reduceAdd, List.length_nil, ↓reduceIte]
  rw [decide_eq_false (Int.ne_of_gt hb)]
  dsimp only [qS1, qS2, qS3, qS4, qS5, qS6, qS7, qS8, qS9, qS10, qS11, qS12, qS13, qS14, qS15, qS16, qS17, qS18, qE1, qE2, qE3, qE4, qE5, qE6, qE7, qE8, qE9, qE10, qE11, qE12, qE13, qE14, qE15, qE16, qE17, qE18, qE19, qE20, qE21, qE22, qEs1, qEs2, wpAll, qO1, qO2, qI1, qI2, qI3, w_add, w_addl, w_sub, w_mul, w_mull, w_fdiv, w_mod, w_pow, w_lt, w_le, w_gt, w_ge, w_eq, w_ne, w_eqt, w_eql, w_net, w_nel, w_isn, w_ist, w_isi, w_isl, w_abs, w_lent, w_lenl, w_intb, w_list, w_tuple, w_min, w_idxt0, w_idxt1, w_idxu0, w_idxu1, w_idxu2, w_idxl, w_slcl, w_slct, w_tb, w_ti, w_tn, w_tt, w_tl, w_itt, w_itl, w_bindT1, w_bindT2, w_srcl, w_srct, w_cut2, w_cut1, w_cut1', w_cut0, w_ty1, w_ty2, w_ty3, w_ty4, w_ty5, w_ty6, w_ty7, w_ty8, w_ty9, w_ty10, w_ty11, w_ty12, w_ty13, w_ty14, w_ty15, w_ty16, w_ty17, w_ty18, w_ty19, w_ty20, w_ty21, w_mapc, w_mapn, w_appc, w_appn, w_repc, w_repn, w_start, w_lenc, w_ifT, w_ifF, w_ifFF, w_ifTF, w_nT, w_nF, w_anyT, w_anyF, w_d22, ifSome_some, ifLst_lst, ifTup_tup, ifInt_int, lget, lset, lsets, Nat.reduceSub, Nat.reduceAdd, List.length_nil, ↓reduceIte]
  refine s_pdiv ed ?_
  have ok := gcd_ok (a := a) hb hs
  rw [decide_eq_false (Int.not_lt.mpr (Int.le_of_lt hb))]
  exact ⟨ok, ok, hQ⟩
noncomputable def bBelow : PS := (.seq (.ret (.cmp .lt (.bin .mul (.idx (.var 0) (.cint 0)) (.idx (.var 1) (.cint 1))) (.bin .mul (.idx (.var 1) (.cint 0)) (.idx (.var 0) (.cint 1))))) .skip)
theorem s_below (e : P[f]? = some ⟨2, 2, bBelow⟩) {p1 q1 p2 q2 : Int} (m1 : IntMulOk p1 q2) (m2 : IntMulOk p2 q1) (hQ : Q (.bool (decide (p1 * q2 < p2 * q1))) H) : callN sub P (n + 1) f [.tup [.int p1, .int q1], .tup [.int p2, .int q2]] H Q X := by
  refine callN_mk e rfl ?_
  dsimp only [bBelow, qS1, qS2, qS3, qS4, qS5, qS6, qS7, qS8, qS9, qS10, qS11, qS12, qS13, qS14, qS15, qS16, qS17, qS18, qE1, qE2, qE3, qE4, qE5, qE6, qE7, qE8, qE9, qE10, qE11, qE12, qE13, qE14, qE15, qE16, qE17, qE18, qE19, qE20, qE21, qE22, qEs1, qEs2, wpAll, qO1, qO2, qI1, qI2, qI3, w_add, w_addl, w_sub, w_mul, w_mull, w_fdiv, w_mod, w_pow, w_lt, w_le, w_gt, w_ge, w_eq, w_ne, w_eqt, w_eql, w_net, w_nel, w_isn, w_ist, w_isi, w_isl, w_abs, w_lent, w_lenl, w_intb, w_list, w_tuple, w_min, w_idxt0, w_idxt1, w_idxu0, w_idxu1, w_idxu2, w_idxl, w_slcl, w_slct, w_tb, w_ti, w_tn, w_tt, w_tl, w_itt, w_itl, w_bindT1, w_bindT2, w_srcl, w_srct, w_cut2, w_cut1, w_cut1', w_cut0, w_ty1, w_ty2, w_ty3, w_ty4, w_ty5, w_ty6, w_ty7, w_ty8, w_ty9, w_ty10, w_ty11, w_ty12, w_ty13, w_ty14, w_ty15, w_ty16, w_ty17, w_ty18, w_ty19, w_ty20, w_ty21, w_mapc, w_mapn, w_appc, w_appn, w_repc, w_repn, w_start, w_lenc, w_ifT, w_ifF, w_ifFF, w_ifTF, w_nT, w_nF, w_anyT, w_anyF, w_d22, ifSome_some, ifLst_lst, ifTup_tup, ifInt_int, lget, lset, lsets, Nat.reduceSub, Nat.reduceAdd, List.length_nil, ↓reduceIte]
  exact ⟨m1, m2, hQ⟩
noncomputable def bPSum (pa : Nat) : PS := (.seq (.ret (.call pa (.cons (.bin .add (.bin .mul (.idx (.var 0) (.cint 0)) (.idx (.var 1) (.cint 1))) (.bin .mul (.idx (.var 1) (.cint 0)) (.idx (.var 0) (.cint 1)))) (.cons (.bin .mul (.idx (.var 0) (.cint 1)) (.idx (.var 1) (.cint 1))) .nil)))) .skip)
theorem s_psum (e : P[f]? = some ⟨2, 2, bPSum pa⟩) (ep : P[pa]? = some ⟨2, 3, bPPart dv⟩) (ed : P[dv]? = some ⟨2, 3, bPDiv⟩) {p1 q1 p2 q2 : Int} (m1 : IntMulOk p1 q2) (m2 : IntMulOk p2 q1) (m3 : IntMulOk q1 q2) (hb : 0 < q1 * q2) (hs : Sm 1000 (q1 * q2))
    (hQ : Q (.tup [.int ((p1 * q2 + p2 * q1).fdiv (((p1 * q2 + p2 * q1).gcd (q1 * q2) : Nat) : Int)), .int ((q1 * q2).fdiv (((p1 * q2 + p2 * q1).gcd (q1 * q2) : Nat) : Int))]) H) : callN sub P (n + 3) f [.tup [.int p1, .int q1], .tup [.int p2, .int q2]] H Q X := by
  refine callN_mk e rfl ?_
  dsimp only [bPSum, qS1, qS2, qS3, qS4, qS5, qS6, qS7, qS8, qS9, qS10, qS11, qS12, qS13, qS14, qS15, qS16, qS17, qS18, qE1, qE2, qE3, qE4, qE5, qE6, qE7, qE8, qE9, qE10, qE11, qE12, qE13, qE14, qE15, qE16, qE17, qE18, qE19, qE20, qE21, qE22, qEs1, qEs2, wpAll, qO1, qO2, qI1, qI2, qI3, w_add, w_addl, w_sub, w_mul, w_mull, w_fdiv, w_mod, w_pow, w_lt, w_le, w_gt, w_ge, w_eq, w_ne, w_eqt, w_eql, w_net, w_nel, w_isn, w_ist, w_isi, w_isl, w_abs, w_lent, w_lenl, w_intb, w_list, w_tuple, w_min, w_idxt0, w_idxt1, w_idxu0, w_idxu1, w_idxu2, w_idxl, w_slcl, w_slct, w_tb, w_ti, w_tn, w_tt, w_tl, w_itt, w_itl, w_bindT1, w_bindT2, w_srcl, w_srct, w_cut2, w_cut1, w_cut1', w_cut0, w_ty1, w_ty2, w_ty3, w_ty4, w_ty5, w_ty6, w_ty7, w_ty8, w_ty9, w_ty10, w_ty11, w_ty12, w_ty13, w_ty14, w_ty15, w_ty16, w_ty17, w_ty18, w_ty19, w_ty20, w_ty21, w_mapc, w_mapn, w_appc, w_appn, w_repc, w_repn, w_start, w_lenc, w_ifT, w_ifF, w_ifFF, w_ifTF, w_nT, w_nF, w_anyT, w_anyF, w_d22, ifSome_some, ifLst_lst, ifTup_tup, ifInt_int, lget, lset, lsets, Nat.reduceSub, Nat.reduceAdd, List.length_nil, ↓reduceIte]
  exact ⟨m1, m2, m3, s_ppart ep ed hb hs hQ⟩

/-! the sign at a part -/
noncomputable def lSign : PS := (.seq (.assign 2 (.bin .add (.bin .mul (.var 2) (.idx (.var 1) (.cint 0))) (.bin .mul (.var 4) (.var 3))))
 (.seq (.assign 3 (.bin .mul (.var 3) (.idx (.var 1) (.cint 1)))) .skip))
noncomputable def bSign : PS := (.seq (.assign 2 (.cint 0))
 (.seq (.assign 3 (.cint 1))
 (.seq (.forr 4 (.rev (.var 0)) lSign)
 (.seq (.ite (.cmp .lt (.var 2) (.cint 0)) (.seq (.ret (.neg (.cint 1))) .skip) .skip)
 (.seq (.ret (.bi .int (.cons (.cmp .gt (.var 2) (.cint 0)) .nil))) .skip)))))
theorem hval_sm {k l : Nat} {p q : Int} (hp : Sm l p) (hq : Sm l q) : ∀ {r : List Int}, AllSm k r → Sm (k + 1 + r.length * (l + 2)) (hval p q r)
  | [], _ => Sm.zero
  | c :: r, h => by
    have h1 := (hval_sm hp hq h.tl).mul hp
    have h2 := h.hd.mul (hq.pow r.length)
    have hm : l * r.length ≤ r.length * (l + 2) := by rw [Nat.mul_comm]; exact Nat.mul_le_mul_left _ (by omega)
    refine Sm.mono (Sm.add (h1.mono (Nat.le_max_left _ (k + (l * r.length + 1)))) (h2.mono (Nat.le_max_right _ _))) ?_
    rw [List.length_cons, Nat.succ_mul]
    omega
theorem s_sign (e : P[f]? = some ⟨2, 5, bSign⟩) {v : V} {row : List Int} {p q : Int} {K L : Nat} (hv : items H v = some (row.map .int)) (hr : AllSm K row) (hp : Sm L p) (hq : Sm L q) (hB : K + 1 + (row.length + 1) * (L + 2) ≤ 1000000)
    (hQ : Q (.int (sgn (hval p q row))) H) : callN sub P (n + 1) f [v, .tup [.int p, .int q]] H Q X := by
  refine callN_mk e rfl ?_
  dsimp only [bSign, qS1, qS2, qS3, qS4, qS5, qS6, qS7, qS8, qS9, qS10, qS11, qS12, qS13, qS14, qS15, qS16, qS17, qS18, qE1, qE2, qE3, qE4, qE5, qE6, qE7, qE8, qE9, qE10, qE11, qE12, qE13, qE14, qE15, qE16, qE17, qE18, qE19, qE20, qE21, qE22, qEs1, qEs2, wpAll, qO1, qO2, qI1, qI2, qI3, w_add, w_addl, w_sub, w_mul, w_mull, w_fdiv, w_mod, w_pow, w_lt, w_le, w_gt, w_ge, w_eq, w_ne, w_eqt, w_eql, w_net, w_nel, w_isn, w_ist, w_isi, w_isl, w_abs, w_lent, w_lenl, w_intb, w_list, w_tuple, w_min, w_idxt0, w_idxt1, w_idxu0, w_idxu1, w_idxu2, w_idxl, w_slcl, w_slct, w_tb, w_ti, w_tn, w_tt, w_tl, w_itt, w_itl, w_bindT1, w_bindT2, w_srcl, w_srct, w_cut2, w_cut1, w_cut1', w_cut0, w_ty1, w_ty2, w_ty3, w_ty4, w_ty5, w_ty6, w_ty7, w_ty8, w_ty9, w_ty10, w_ty11, w_ty12, w_ty13, w_ty14, w_ty15, w_ty16, w_ty17, w_ty18, w_ty19, w_ty20, w_ty21, w_mapc, w_mapn, w_appc, w_appn, w_repc, w_repn, w_start, w_lenc, w_ifT, w_ifF, w_ifFF, w_ifTF, w_nT, w_nF, w_anyT, w_anyF, w_d22, ifSome_some, ifLst_lst, ifTup_tup, ifInt_int, lget, lset, lsets, Nat.reduceSub, Nat.reduceAdd, List.length_nil, ↓reduceIte]
  refine ifSome.mk hv ?_
  refine forGo_rule (fun rest ρ H' => ∃ pre suf o, row = pre ++ suf ∧ rest = ((pre : List Int).map V.int).reverse ∧ ρ = [some v, some (.tup [.int p, .int q]), some (.int (hval p q suf)), some (.int (q ^ suf.length)), o] ∧ H' = H) ?_ ?_ _ _ _ ⟨row, [], none, (List.append_nil _).symm, rfl, by rw [List.length_nil, Int.pow_zero]; rfl, rfl⟩
  · rintro x xs ρ H' k ⟨pre, suf, o, hr1, hx, rfl, rfl⟩ hk
    rcases List.eq_nil_or_concat pre with rfl | ⟨pre', d, rfl⟩
    · cases hx
    rw [List.concat_eq_append] at hr1 hx
    rw [List.map_append, List.reverse_append] at hx
    cases hx
    have hsl : suf.length + 1 ≤ row.length := by rw [hr1, List.length_append, List.length_append, List.length_singleton]; omega
    have hsf : AllSm K suf := fun y hy => hr y (by rw [hr1]; simp [hy])
    have hdm : Sm K d := hr d (by rw [hr1]; simp)
    have b1 := hval_sm hp hq hsf
    have b2 := hq.pow suf.length
    have mm : (suf.length + 1) * (L + 2) ≤ row.length * (L + 2) := Nat.mul_le_mul_right _ hsl
    rw [Nat.succ_mul] at mm hB
    have mm1 : L * suf.length ≤ suf.length * (L + 2) := by rw [Nat.mul_comm]; exact Nat.mul_le_mul_left _ (by omega)
    have hL : L ≤ 1048576 := by omega
    have h2 : L * suf.length + 1 ≤ 1048576 := by omega
    dsimp only [lSign, qS1, qS2, qS3, qS4, qS5, qS6, qS7, qS8, qS9, qS10, qS11, qS12, qS13, qS14, qS15, qS16, qS17, qS18, qE1, qE2, qE3, qE4, qE5, qE6, qE7, qE8, qE9, qE10, qE11, qE12, qE13, qE14, qE15, qE16, qE17, qE18, qE19, qE20, qE21, qE22, qEs1, qEs2, wpAll, qO1, qO2, qI1, qI2, qI3, w_add, w_addl, w_sub, w_mul, w_mull, w_fdiv, w_mod, w_pow, w_lt, w_le, w_gt, w_ge, w_eq, w_ne, w_eqt, w_eql, w_net, w_nel, w_isn, w_ist, w_isi, w_isl, w_abs, w_lent, w_lenl, w_intb, w_list, w_tuple, w_min, w_idxt0, w_idxt1, w_idxu0, w_idxu1, w_idxu2, w_idxl, w_slcl, w_slct, w_tb, w_ti, w_tn, w_tt, w_tl, w_itt, w_itl, w_bindT1, w_bindT2, w_srcl, w_srct, w_cut2, w_cut1, w_cut1', w_cut0, w_ty1, w_ty2, w_ty3, w_ty4, w_ty5, w_ty6, w_ty7, w_ty8, w_ty9, w_ty10, w_ty11, w_ty12, w_ty13, w_ty14, w_ty15, w_ty16, w_ty17, w_ty18, w_ty19, w_ty20, w_ty21, w_mapc, w_mapn, w_appc, w_appn, w_repc, w_repn, w_start, w_lenc, w_ifT, w_ifF, w_ifFF, w_ifTF, w_nT, w_nF, w_anyT, w_anyF, w_d22, ifSome_some, ifLst_lst, ifTup_tup, ifInt_int, lget, lset, lsets, Nat.reduceSub, Nat.reduceAdd, List.length_nil, ↓reduceIte]
    refine ⟨IntMulOk.sm b1 hp (by omega) hL, IntMulOk.sm hdm b2 (by omega) h2, IntMulOk.sm b2 hq h2 hL, ?_⟩
    refine hk _ _ ⟨pre', d :: suf, some (.int d), by rw [hr1, List.append_assoc]; rfl, rfl, ?_, rfl⟩
    rw [hval, List.length_cons, Int.pow_succ]
  · rintro ρ H' ⟨pre, suf, o, hr1, hx, rfl, rfl⟩
    have hnil : pre = [] := by
      have := congrArg List.length hx
      simp at this; exact List.eq_nil_of_length_eq_zero this.symm
    subst hnil
    rw [List.nil_append] at hr1
    subst hr1
    dsimp only [qS1, qS2, qS3, qS4, qS5, qS6, qS7, qS8, qS9, qS10, qS11, qS12, qS13, qS14, qS15, qS16, qS17, qS18, qE1, qE2, qE3, qE4, qE5, qE6, qE7, qE8, qE9, qE10, qE11, qE12, qE13, qE14, qE15, qE16, qE17, qE18, qE19, qE20, qE21, qE22, qEs1, qEs2, wpAll, qO1, qO2, qI1, qI2, qI3, w_add, w_addl, w_sub, w_mul, w_mull, w_fdiv, w_mod, w_pow, w_lt, w_le, w_gt, w_ge, w_eq, w_ne, w_eqt, w_eql, w_net, w_nel, w_isn, w_ist, w_isi, w_isl, w_abs, w_lent, w_lenl, w_intb, w_list, w_tuple, w_min, w_idxt0, w_idxt1, w_idxu0, w_idxu1, w_idxu2, w_idxl, w_slcl, w_slct, w_tb, w_ti, w_tn, w_tt, w_tl, w_itt, w_itl, w_bindT1, w_bindT2, w_srcl, w_srct, w_cut2, w_cut1, w_cut1', w_cut0, w_ty1, w_ty2, w_ty3, w_ty4, w_ty5, w_ty6, w_ty7, w_ty8, w_ty9, w_ty10, w_ty11, w_ty12, w_ty13, w_ty14, w_ty15, w_ty16, w_ty17, w_ty18, w_ty19, w_ty20, w_ty21, w_mapc, w_mapn, w_appc, w_appn, w_repc, w_repn, w_start, w_lenc, w_ifT, w_ifF, w_ifFF, w_ifTF, w_nT, w_nF, w_anyT, w_anyF, w_d22, ifSome_some, ifLst_lst, ifTup_tup, ifInt_int, lget, lset, lsets, Nat.reduceSub, Nat.reduceAdd, List.length_nil, ↓reduceIte]
    revert hQ
    generalize hval p q row = z
    intro hQ
    unfold sgn at hQ
    by_cases h1 : z < 0
    · rw [if_pos h1] at hQ; rw [decide_eq_true h1]; exact hQ
    · rw [if_neg h1] at hQ; rw [decide_eq_false h1]
      by_cases h2 : 0 < z
      · rw [if_pos h2] at hQ; rw [decide_eq_true h2]; exact hQ
      · rw [if_neg h2] at hQ; rw [decide_eq_false h2]; exact hQ

/-! the row by its divisor, list or tuple; both texts -/
noncomputable def zRed : PE := (.comp (.bin .fdiv (.var 0) (.var 1)) 1 [1] (.seq (.var 0)) .no)
noncomputable def lRed (dv : Nat) : PS := (.seq (.assign 1 (.call dv (.cons (.var 1) (.cons (.var 2) .nil)))) .skip)
noncomputable def bRed (dv : Nat) (ng : PE) : PS := (.seq (.assign 1 (.cint 0))
 (.seq (.forr 2 (.seq (.var 0)) (lRed dv))
 (.seq (.ite (.cmp .lt (.idx (.var 0) (.neg (.cint 1))) (.cint 0)) (.seq (.assign 1 ng) .skip) .skip)
 (.seq (.ret zRed) .skip))))
theorem s_red {ng : PE} (hng : ∀ (g : Int) (ρ : Loc) (H' : Hp) (Z : V → Hp → Prop), lget ρ 1 = some (.int g) → Z (.int (-g)) H' → wpE sub (callN sub P n) ng ρ H' Z) (e : P[f]? = some ⟨1, 3, bRed dv ng⟩)
    (ed : ∀ (a b : Int) (H' : Hp) (Z : V → Hp → Prop) (X' : Nat → Hp → Prop), Z (.int (a.gcd b : Nat)) H' → callN sub P n dv [.int a, .int b] H' Z X') {v : V} {row : List Int} {l : Int} (hv : items H v = some (row.map .int)) (hlast : row.getLast? = some l) (h0 : l ≠ 0) (hs : Sm 8000 l) (hl : row.length ≤ 1000)
    (hQ : Q (.lst H.length) (H ++ [(redI row l).map .int])) : callN sub P (n + 1) f [v] H Q X := by
  have hmem : l ∈ row := List.mem_of_getLast? hlast
  refine callN_mk e rfl ?_
  dsimp only [bRed, qS1, qS2, qS3, qS4, qS5, qS6, qS7, qS8, qS9, qS10, qS11, qS12, qS13, qS14, qS15, qS16, qS17, qS18, qE1, qE2, qE3, qE4, qE5, qE6, qE7, qE8, qE9, qE10, qE11, qE12, qE13, qE14, qE15, qE16, qE17, qE18, qE19, qE20, qE21, qE22, qEs1, qEs2, wpAll, qO1, qO2, qI1, qI2, qI3, w_add, w_addl, w_sub, w_mul, w_mull, w_fdiv, w_mod, w_pow, w_lt, w_le, w_gt, w_ge, w_eq, w_ne, w_eqt, w_eql, w_net, w_nel, w_isn, w_ist, w_isi, w_isl, w_abs, w_lent, w_lenl, w_intb, w_list, w_tuple, w_min, w_idxt0, w_idxt1, w_idxu0, w_idxu1, w_idxu2, w_idxl, w_slcl, w_slct, w_tb, w_ti, w_tn, w_tt, w_tl, w_itt, w_itl, w_bindT1, w_bindT2, w_srcl, w_srct, w_cut2, w_cut1, w_cut1', w_cut0, w_ty1, w_ty2, w_ty3, w_ty4, w_ty5, w_ty6, w_ty7, w_ty8, w_ty9, w_ty10, w_ty11, w_ty12, w_ty13, w_ty14, w_ty15, w_ty16, w_ty17, w_ty18, w_ty19, w_ty20, w_ty21, w_mapc, w_mapn, w_appc, w_appn, w_repc, w_repn, w_start, w_lenc, w_ifT, w_ifF, w_ifFF, w_ifTF, w_nT, w_nF, w_anyT, w_anyF, w_d22, ifSome_some, ifLst_lst, ifTup_tup, ifInt_int, lget, lset, lsets, Nat.reduceSub, Nat.reduceAdd, List.length_nil, ↓reduceIte]
  refine ifSome.mk hv ?_
  refine forGo_rule (fun rest ρ H' => ∃ td g o, rest = (td : List Int).map V.int ∧ ρ = [some v, some (.int ((g : Nat) : Int)), o] ∧ H' = H ∧ gAll td g = gAll row 0) ?_ ?_ _ _ _ ⟨row, 0, _, rfl, rfl, rfl, rfl⟩
  · rintro x xs ρ H' k ⟨td, g, o, hx, rfl, rfl, hg⟩ hk
    cases td with
    | nil => cases hx
    | cons y td =>
      cases hx
      dsimp only [lRed, qS1, qS2, qS3, qS4, qS5, qS6, qS7, qS8, qS9, qS10, qS11, qS12, qS13, qS14, qS15, qS16, qS17, qS18, qE1, qE2, qE3, qE4, qE5, qE6, qE7, qE8, qE9, qE10, qE11, qE12, qE13, qE14, qE15, qE16, qE17, qE18, qE19, qE20, qE21, qE22, qEs1, qEs2, wpAll, qO1, qO2, qI1, qI2, qI3, w_add, w_addl, w_sub, w_mul, w_mull, w_fdiv, w_mod, w_pow, w_lt, w_le, w_gt, w_ge, w_eq, w_ne, w_eqt, w_eql, w_net, w_nel, w_isn, w_ist, w_isi, w_isl, w_abs, w_lent, w_lenl, w_intb, w_list, w_tuple, w_min, w_idxt0, w_idxt1, w_idxu0, w_idxu1, w_idxu2, w_idxl, w_slcl, w_slct, w_tb, w_ti, w_tn, w_tt, w_tl, w_itt, w_itl, w_bindT1, w_bindT2, w_srcl, w_srct, w_cut2, w_cut1, w_cut1', w_cut0, w_ty1, w_ty2, w_ty3, w_ty4, w_ty5, w_ty6, w_ty7, w_ty8, w_ty9, w_ty10, w_ty11, w_ty12, w_ty13, w_ty14, w_ty15, w_ty16, w_ty17, w_ty18, w_ty19, w_ty20, w_ty21, w_mapc, w_mapn, w_appc, w_appn, w_repc, w_repn, w_start, w_lenc, w_ifT, w_ifF, w_ifFF, w_ifTF, w_nT, w_nF, w_anyT, w_anyF, w_d22, ifSome_some, ifLst_lst, ifTup_tup, ifInt_int, lget, lset, lsets, Nat.reduceSub, Nat.reduceAdd, List.length_nil, ↓reduceIte]
      refine ed _ _ _ _ _ ?_
      exact hk _ _ ⟨td, Nat.gcd g y.natAbs, _, rfl, rfl, rfl, hg⟩
  · rintro ρ H' ⟨td, g, o, hx, rfl, rfl, hg⟩
    cases td with
    | cons y td => cases hx
    | nil =>
      have hg' : g = gAll row 0 := hg
      have hrl : 1 ≤ (row.map V.int).length := by rw [List.length_map]; exact List.length_pos_of_mem hmem
      have hgp := gAll_pos hmem h0
      have hok : DivOk (gOf row l) := ⟨gOf_ne hmem h0, by
        rw [gOf_abs]
        exact Nat.lt_of_le_of_lt (Nat.le_of_dvd (Int.natAbs_pos.mpr h0) ((gAll_dvd row 0).2 l hmem)) (hs.mono (by decide))⟩
      have key : ∀ o', wpE sub (callN sub P n) zRed [some v, some (.int (gOf row l)), o'] H' Q := fun o' => by
        dsimp only [zRed, qE1, qE2, qE3, qE4, qE5, qE6, qE7, qE8, qE9, qE10, qE11, qE12, qE13, qE14, qE15, qE16, qE17, qE18, qE19, qE20, qE21, qE22, qI1, qI2, qI3, lget, ifSome_some]
        refine ifSome.mk hv ⟨by rw [List.length_map]; unfold lim; omega, ?_⟩
        refine compGo_map (g := fun x => match x with | .int y => V.int (y.fdiv (gOf row l)) | x => x) (fun x hx k hk => ?_) ?_
        · obtain ⟨y, _, rfl⟩ := List.mem_map.mp hx
          exact ⟨hok, hk⟩
        · rw [List.map_map]
          unfold redI at hQ
          rw [List.map_map] at hQ
          exact hQ
      dsimp only [qS1, qS2, qS3, qS4, qS5, qS6, qS7, qS8, qS9, qS10, qS11, qS12, qS13, qS14, qS15, qS16, qS17, qS18, qE1, qE2, qE3, qE4, qE5, qE6, qE7, qE8, qE9, qE10, qE11, qE12, qE13, qE14, qE15, qE16, qE17, qE18, qE19, qE20, qE21, qE22, qEs1, qEs2, wpAll, qO1, qO2, qI1, qI2, qI3, w_add, w_addl, w_sub, w_mul, w_mull, w_fdiv, w_mod, w_pow, w_lt, w_le, w_gt, w_ge, w_eq, w_ne, w_eqt, w_eql, w_net, w_nel, w_isn, w_ist, w_isi, w_isl, w_abs, w_lent, w_lenl, w_intb, w_list, w_tuple, w_min, w_idxt0, w_idxt1, w_idxu0, w_idxu1, w_idxu2, w_idxl, w_slcl, w_slct, w_tb, w_ti, w_tn, w_tt, w_tl, w_itt, w_itl, w_bindT1, w_bindT2, w_srcl, w_srct, w_cut2, w_cut1, w_cut1', w_cut0, w_ty1, w_ty2, w_ty3, w_ty4, w_ty5, w_ty6, w_ty7, w_ty8, w_ty9, w_ty10, w_ty11, w_ty12, w_ty13, w_ty14, w_ty15, w_ty16, w_ty17, w_ty18, w_ty19, w_ty20, w_ty21, w_mapc, w_mapn, w_appc, w_appn, w_repc, w_repn, w_start, w_lenc, w_ifT, w_ifF, w_ifFF, w_ifTF, w_nT, w_nF, w_anyT, w_anyF, w_d22, ifSome_some, ifLst_lst, ifTup_tup, ifInt_int, lget, lset, lsets, Nat.reduceSub, Nat.reduceAdd, List.length_nil, ↓reduceIte, w_idxg]
      refine ifSome.mk hv (ifSome.mk (place_last hrl) (ifSome.mk (v := .int l) ?_ ?_))
      · rw [List.length_map, List.getElem?_map, ← List.getLast?_eq_getElem?, hlast]; rfl
      by_cases hn : l < 0
      · dsimp only [qS1, qS2, qS3, qS4, qS5, qS6, qS7, qS8, qS9, qS10, qS11, qS12, qS13, qS14, qS15, qS16, qS17, qS18, qE1, qE2, qE3, qE4, qE5, qE6, qE7, qE8, qE9, qE10, qE11, qE12, qE13, qE14, qE15, qE16, qE17, qE18, qE19, qE20, qE21, qE22, qEs1, qEs2, wpAll, qO1, qO2, qI1, qI2, qI3, w_add, w_addl, w_sub, w_mul, w_mull, w_fdiv, w_mod, w_pow, w_lt, w_le, w_gt, w_ge, w_eq, w_ne, w_eqt, w_eql, w_net, w_nel, w_isn, w_ist, w_isi, w_isl, w_abs, w_lent, w_lenl, w_intb, w_list, w_tuple, w_min, w_idxt0, w_idxt1, w_idxu0, w_idxu1, w_idxu2, w_idxl, w_slcl, w_slct, w_tb, w_ti, w_tn, w_tt, w_tl, w_itt, w_itl, w_bindT1, w_bindT2, w_srcl, w_srct, w_cut2, w_cut1, w_cut1', w_cut0, w_ty1, w_ty2, w_ty3, w_ty4, w_ty5, w_ty6, w_ty7, w_ty8, w_ty9, w_ty10, w_ty11, w_ty12, w_ty13, w_ty14, w_ty15, w_ty16, w_ty17, w_ty18, w_ty19, w_ty20, w_ty21, w_mapc, w_mapn, w_appc, w_appn, w_repc, w_repn, w_start, w_lenc, w_ifT, w_ifF, w_ifFF, w_ifTF, w_nT, w_nF, w_anyT, w_anyF, w_d22, ifSome_some, ifLst_lst, ifTup_tup, ifInt_int, lget, lset, lsets, Nat.reduceSub, Nat.reduceAdd, List.length_nil, ↓reduceIte]
        rw [decide_eq_true hn]
        refine hng g _ _ _ rfl ?_
        have : gOf row l = -(g : Int) := by unfold gOf; rw [if_pos hn, hg']
        rw [this] at key
        exact key _
      · dsimp only [qS1, qS2, qS3, qS4, qS5, qS6, qS7, qS8, qS9, qS10, qS11, qS12, qS13, qS14, qS15, qS16, qS17, qS18, qE1, qE2, qE3, qE4, qE5, qE6, qE7, qE8, qE9, qE10, qE11, qE12, qE13, qE14, qE15, qE16, qE17, qE18, qE19, qE20, qE21, qE22, qEs1, qEs2, wpAll, qO1, qO2, qI1, qI2, qI3, w_add, w_addl, w_sub, w_mul, w_mull, w_fdiv, w_mod, w_pow, w_lt, w_le, w_gt, w_ge, w_eq, w_ne, w_eqt, w_eql, w_net, w_nel, w_isn, w_ist, w_isi, w_isl, w_abs, w_lent, w_lenl, w_intb, w_list, w_tuple, w_min, w_idxt0, w_idxt1, w_idxu0, w_idxu1, w_idxu2, w_idxl, w_slcl, w_slct, w_tb, w_ti, w_tn, w_tt, w_tl, w_itt, w_itl, w_bindT1, w_bindT2, w_srcl, w_srct, w_cut2, w_cut1, w_cut1', w_cut0, w_ty1, w_ty2, w_ty3, w_ty4, w_ty5, w_ty6, w_ty7, w_ty8, w_ty9, w_ty10, w_ty11, w_ty12, w_ty13, w_ty14, w_ty15, w_ty16, w_ty17, w_ty18, w_ty19, w_ty20, w_ty21, w_mapc, w_mapn, w_appc, w_appn, w_repc, w_repn, w_start, w_lenc, w_ifT, w_ifF, w_ifFF, w_ifTF, w_nT, w_nF, w_anyT, w_anyF, w_d22, ifSome_some, ifLst_lst, ifTup_tup, ifInt_int, lget, lset, lsets, Nat.reduceSub, Nat.reduceAdd, List.length_nil, ↓reduceIte]
        rw [decide_eq_false hn]
        have : gOf row l = (g : Int) := by unfold gOf; rw [if_neg hn, hg']
        rw [this] at key
        exact key _
end
end Mine

set_option autoImplicit false
set_option linter.unusedVariables false
set_option linter.unusedSimpArgs false
set_option maxRecDepth 100000
namespace Mine
open PySem
theorem range_down (n : Nat) : rangeL ((n : Int) - 1) (-1) (-1) = (List.range n).reverse.map fun (i : Nat) => (i : Int) := by
  have hsz : (Builtin.Range.rangeSize ((n : Int) - 1) (-1) (-1)).toNat = n := by
    unfold Builtin.Range.rangeSize
    simp
    first | done | omega | (split <;> omega)
  unfold rangeL
  rw [hsz]
  apply List.ext_getElem
  · simp
  · intro i h1 h2
    simp at h1 h2
    simp
    omega
theorem rngD {n : Nat} {H : Hp} {Q : List V → Option Nat → Hp → Prop} (hn : n ≤ 900) (h : Q ((List.range n).reverse.map fun (i : Nat) => V.int (i : Int)) none H) : rngWp [.int ((n : Int) - 1), .int (-1), .int (-1)] H Q := by
  refine ⟨(n : Int) - 1, -1, -1, rfl, smallI_of (by omega) (by omega), smallI_of (by decide) (by decide), .inr (.inl rfl), ?_⟩
  rw [range_down, List.map_map]; exact h
section
variable {sub : Nat → Nat → Bool} {P : List Fn} {f n dv pa : Nat} {H : Hp} {Q : V → Hp → Prop} {X : Nat → Hp → Prop}
noncomputable def lVal : PS := (.seq (.assign 2 (.bin .add (.bin .mul (.var 2) (.idx (.var 1) (.cint 0))) (.bin .mul (.idx (.var 0) (.var 4)) (.var 3))))
 (.seq (.assign 3 (.bin .mul (.var 3) (.idx (.var 1) (.cint 1)))) .skip))
noncomputable def bVal : PS := (.seq (.assign 2 (.cint 0))
 (.seq (.assign 3 (.cint 1))
 (.seq (.forr 4 (.rng (.cons (.bin .sub (.bi .len (.cons (.var 0) .nil)) (.cint 1)) (.cons (.neg (.cint 1)) (.cons (.neg (.cint 1)) .nil)))) lVal)
 (.seq (.ret (.var 2)) .skip))))
theorem s_val (e : P[f]? = some ⟨2, 5, bVal⟩) {m : Nat} {row : List Int} {p q : Int} {K L : Nat} (hm : H[m]? = some (row.map .int)) (hl : row.length ≤ 900) (hr : AllSm K row) (hp : Sm L p) (hq : Sm L q) (hB : K + 1 + (row.length + 1) * (L + 2) ≤ 1000000)
    (hQ : Q (.int (hval p q row)) H) : callN sub P (n + 1) f [.lst m, .tup [.int p, .int q]] H Q X := by
  refine callN_mk e rfl ?_
  dsimp only [bVal, qS1, qS2, qS3, qS4, qS5, qS6, qS7, qS8, qS9, qS10, qS11, qS12, qS13, qS14, qS15, qS16, qS17, qS18, qE1, qE2, qE3, qE4, qE5, qE6, qE7, qE8, qE9, qE10, qE11, qE12, qE13, qE14, qE15, qE16, qE17, qE18, qE19, qE20, qE21, qE22, qEs1, qEs2, wpAll, qO1, qO2, qI1, qI2, qI3, w_add, w_addl, w_sub, w_mul, w_mull, w_fdiv, w_mod, w_pow, w_lt, w_le, w_gt, w_ge, w_eq, w_ne, w_eqt, w_eql, w_net, w_nel, w_isn, w_ist, w_isi, w_isl, w_abs, w_lent, w_lenl, w_intb, w_list, w_tuple, w_min, w_idxt0, w_idxt1, w_idxu0, w_idxu1, w_idxu2, w_idxl, w_slcl, w_slct, w_tb, w_ti, w_tn, w_tt, w_tl, w_itt, w_itl, w_bindT1, w_bindT2, w_srcl, w_srct, w_cut2, w_cut1, w_cut1', w_cut0, w_ty1, w_ty2, w_ty3, w_ty4, w_ty5, w_ty6, w_ty7, w_ty8, w_ty9, w_ty10, w_ty11, w_ty12, w_ty13, w_ty14, w_ty15, w_ty16, w_ty17, w_ty18, w_ty19, w_ty20, w_ty21, w_mapc, w_mapn, w_appc, w_appn, w_repc, w_repn, w_start, w_lenc, w_ifT, w_ifF, w_ifFF, w_ifTF, w_nT, w_nF, w_anyT, w_anyF, w_d22, ifSome_some, ifLst_lst, ifTup_tup, ifInt_int, lget, lset, lsets, Nat.reduceSub, Nat.reduceAdd, List.length_nil, ↓reduceIte]
  refine ifSome.mk hm ?_
  rw [List.length_map]
  refine rngD hl ?_
  refine forGo_rule (fun rest ρ H' => ∃ pre suf o, row = pre ++ suf ∧ rest = (List.range (pre : List Int).length).reverse.map (fun (i : Nat) => V.int (i : Int)) ∧ ρ = [some (.lst m), some (.tup [.int p, .int q]), some (.int (hval p q suf)), some (.int (q ^ suf.length)), o] ∧ H' = H) ?_ ?_ _ _ _ ⟨row, [], none, (List.append_nil _).symm, rfl, by rw [List.length_nil, Int.pow_zero]; rfl, rfl⟩
  · rintro x xs ρ H' k ⟨pre, suf, o, hr1, hx, rfl, rfl⟩ hk
    rcases List.eq_nil_or_concat pre with rfl | ⟨pre', d, rfl⟩
    · cases hx
    rw [List.concat_eq_append] at hr1 hx
    rw [List.length_append, List.length_singleton, List.range_succ, List.reverse_append] at hx
    cases hx
    have hy : (row.map V.int)[pre'.length]? = some (.int d) := by
      rw [hr1, List.append_assoc, List.map_append]
      have := getApp (pre'.map V.int) (V.int d) (suf.map V.int); rwa [List.length_map] at this
    have hdl : pre'.length < (row.map V.int).length := by rw [hr1]; simp
    have hsl : suf.length + 1 ≤ row.length := by rw [hr1, List.length_append, List.length_append, List.length_singleton]; omega
    have hsf : AllSm K suf := fun y hy => hr y (by rw [hr1]; simp [hy])
    have hdm : Sm K d := hr d (by rw [hr1]; simp)
    have b1 := hval_sm hp hq hsf
    have b2 := hq.pow suf.length
    have mm : (suf.length + 1) * (L + 2) ≤ row.length * (L + 2) := Nat.mul_le_mul_right _ hsl
    rw [Nat.succ_mul] at mm hB
    have mm1 : L * suf.length ≤ suf.length * (L + 2) := by rw [Nat.mul_comm]; exact Nat.mul_le_mul_left _ (by omega)
    have hL : L ≤ 1048576 := by omega
    have h2 : L * suf.length + 1 ≤ 1048576 := by omega
    dsimp only [lVal, qS1, qS2, qS3, qS4, qS5, qS6, qS7, qS8, qS9, qS10, qS11, qS12, qS13, qS14, qS15, qS16, qS17, qS18, qE1, qE2, qE3, qE4, qE5, qE6, qE7, qE8, qE9, qE10, qE11, qE12, qE13, qE14, qE15, qE16, qE17, qE18, qE19, qE20, qE21, qE22, qEs1, qEs2, wpAll, qO1, qO2, qI1, qI2, qI3, w_add, w_addl, w_sub, w_mul, w_mull, w_fdiv, w_mod, w_pow, w_lt, w_le, w_gt, w_ge, w_eq, w_ne, w_eqt, w_eql, w_net, w_nel, w_isn, w_ist, w_isi, w_isl, w_abs, w_lent, w_lenl, w_intb, w_list, w_tuple, w_min, w_idxt0, w_idxt1, w_idxu0, w_idxu1, w_idxu2, w_idxl, w_slcl, w_slct, w_tb, w_ti, w_tn, w_tt, w_tl, w_itt, w_itl, w_bindT1, w_bindT2, w_srcl, w_srct, w_cut2, w_cut1, w_cut1', w_cut0, w_ty1, w_ty2, w_ty3, w_ty4, w_ty5, w_ty6, w_ty7, w_ty8, w_ty9, w_ty10, w_ty11, w_ty12, w_ty13, w_ty14, w_ty15, w_ty16, w_ty17, w_ty18, w_ty19, w_ty20, w_ty21, w_mapc, w_mapn, w_appc, w_appn, w_repc, w_repn, w_start, w_lenc, w_ifT, w_ifF, w_ifFF, w_ifTF, w_nT, w_nF, w_anyT, w_anyF, w_d22, ifSome_some, ifLst_lst, ifTup_tup, ifInt_int, lget, lset, lsets, Nat.reduceSub, Nat.reduceAdd, List.length_nil, ↓reduceIte]
    refine ⟨IntMulOk.sm b1 hp (by omega) hL, ?_⟩
    refine ifSome.mk hm (ifSome.mk (place_nat hdl) (ifSome.mk hy ⟨IntMulOk.sm hdm b2 (by omega) h2, IntMulOk.sm b2 hq h2 hL, ?_⟩))
    refine hk _ _ ⟨pre', d :: suf, some (.int (pre'.length : Int)), by rw [hr1, List.append_assoc]; rfl, rfl, ?_, rfl⟩
    rw [hval, List.length_cons, Int.pow_succ]
  · rintro ρ H' ⟨pre, suf, o, hr1, hx, rfl, rfl⟩
    have hnil : pre = [] := by
      have := congrArg List.length hx
      simp at this; exact List.eq_nil_of_length_eq_zero this.symm
    subst hnil
    rw [List.nil_append] at hr1
    subst hr1
    exact hQ

noncomputable def bIsPart (wh pa : Nat) : PS := (.seq (.ite (.or (.cons (.nt (.isi (.var 0) [.tuple])) (.cons (.cmp .ne (.bi .len (.cons (.var 0) .nil)) (.cint 2)) (.cons (.nt (.call wh (.cons (.idx (.var 0) (.cint 0)) .nil))) (.cons (.nt (.call wh (.cons (.idx (.var 0) (.cint 1)) .nil))) .nil))))) (.seq (.ret (.cbool false)) .skip) .skip)
 (.seq (.ret (.and (.cons (.cmp .gt (.idx (.var 0) (.cint 1)) (.cint 0)) (.cons (.cmp .eq (.call pa (.cons (.idx (.var 0) (.cint 0)) (.cons (.idx (.var 0) (.cint 1)) .nil))) (.var 0)) .nil)))) .skip))
theorem s_ispart {wh : Nat} (e : P[f]? = some ⟨1, 1, bIsPart wh pa⟩) (ew : P[wh]? = some ⟨1, 1, bWhole⟩) (ep : P[pa]? = some ⟨2, 3, bPart dv⟩) (ed : P[dv]? = some ⟨2, 3, bDiv⟩) {p q : Int} {k : Nat} (a : Low k p q) (hk : k ≤ 1000) (hQ : Q (.bool true) H) : callN sub P (n + 3) f [.tup [.int p, .int q]] H Q X := by
  refine callN_mk e rfl ?_
  dsimp only [bIsPart, qS1, qS2, qS3, qS4, qS5, qS6, qS7, qS8, qS9, qS10, qS11, qS12, qS13, qS14, qS15, qS16, qS17, qS18, qE1, qE2, qE3, qE4, qE5, qE6, qE7, qE8, qE9, qE10, qE11, qE12, qE13, qE14, qE15, qE16, qE17, qE18, qE19, qE20, qE21, qE22, qEs1, qEs2, wpAll, qO1, qO2, qI1, qI2, qI3, w_add, w_addl, w_sub, w_mul, w_mull, w_fdiv, w_mod, w_pow, w_lt, w_le, w_gt, w_ge, w_eq, w_ne, w_eqt, w_eql, w_net, w_nel, w_isn, w_ist, w_isi, w_isl, w_abs, w_lent, w_lenl, w_intb, w_list, w_tuple, w_min, w_idxt0, w_idxt1, w_idxu0, w_idxu1, w_idxu2, w_idxl, w_slcl, w_slct, w_tb, w_ti, w_tn, w_tt, w_tl, w_itt, w_itl, w_bindT1, w_bindT2, w_srcl, w_srct, w_cut2, w_cut1, w_cut1', w_cut0, w_ty1, w_ty2, w_ty3, w_ty4, w_ty5, w_ty6, w_ty7, w_ty8, w_ty9, w_ty10, w_ty11, w_ty12, w_ty13, w_ty14, w_ty15, w_ty16, w_ty17, w_ty18, w_ty19, w_ty20, w_ty21, w_mapc, w_mapn, w_appc, w_appn, w_repc, w_repn, w_start, w_lenc, w_ifT, w_ifF, w_ifFF, w_ifTF, w_nT, w_nF, w_anyT, w_anyF, w_d22, ifSome_some, ifLst_lst, ifTup_tup, ifInt_int, lget, lset, lsets, Nat.reduceSub, Nat.reduceAdd, List.length_nil, ↓reduceIte]
  refine ifSome.mk (v := [true]) rfl ?_
  refine (if_pos (show (![true].any id) = false from rfl)).mpr ?_
  refine s_whole ew ?_
  dsimp only [qS1, qS2, qS3, qS4, qS5, qS6, qS7, qS8, qS9, qS10, qS11, qS12, qS13, qS14, qS15, qS16, qS17, qS18, qE1, qE2, qE3, qE4, qE5, qE6, qE7, qE8, qE9, qE10, qE11, qE12, qE13, qE14, qE15, qE16, qE17, qE18, qE19, qE20, qE21, qE22, qEs1, qEs2, wpAll, qO1, qO2, qI1, qI2, qI3, w_add, w_addl, w_sub, w_mul, w_mull, w_fdiv, w_mod, w_pow, w_lt, w_le, w_gt, w_ge, w_eq, w_ne, w_eqt, w_eql, w_net, w_nel, w_isn, w_ist, w_isi, w_isl, w_abs, w_lent, w_lenl, w_intb, w_list, w_tuple, w_min, w_idxt0, w_idxt1, w_idxu0, w_idxu1, w_idxu2, w_idxl, w_slcl, w_slct, w_tb, w_ti, w_tn, w_tt, w_tl, w_itt, w_itl, w_bindT1, w_bindT2, w_srcl, w_srct, w_cut2, w_cut1, w_cut1', w_cut0, w_ty1, w_ty2, w_ty3, w_ty4, w_ty5, w_ty6, w_ty7, w_ty8, w_ty9, w_ty10, w_ty11, w_ty12, w_ty13, w_ty14, w_ty15, w_ty16, w_ty17, w_ty18, w_ty19, w_ty20, w_ty21, w_mapc, w_mapn, w_appc, w_appn, w_repc, w_repn, w_start, w_lenc, w_ifT, w_ifF, w_ifFF, w_ifTF, w_nT, w_nF, w_anyT, w_anyF, w_d22, ifSome_some, ifLst_lst, ifTup_tup, ifInt_int, lget, lset, lsets, Nat.reduceSub, Nat.reduceAdd, List.length_nil, ↓reduceIte]
  refine s_whole ew ?_
  dsimp only [qS1, qS2, qS3, qS4, qS5, qS6, qS7, qS8, qS9, qS10, qS11, qS12, qS13, qS14, qS15, qS16, qS17, qS18, qE1, qE2, qE3, qE4, qE5, qE6, qE7, qE8, qE9, qE10, qE11, qE12, qE13, qE14, qE15, qE16, qE17, qE18, qE19, qE20, qE21, qE22, qEs1, qEs2, wpAll, qO1, qO2, qI1, qI2, qI3, w_add, w_addl, w_sub, w_mul, w_mull, w_fdiv, w_mod, w_pow, w_lt, w_le, w_gt, w_ge, w_eq, w_ne, w_eqt, w_eql, w_net, w_nel, w_isn, w_ist, w_isi, w_isl, w_abs, w_lent, w_lenl, w_intb, w_list, w_tuple, w_min, w_idxt0, w_idxt1, w_idxu0, w_idxu1, w_idxu2, w_idxl, w_slcl, w_slct, w_tb, w_ti, w_tn, w_tt, w_tl, w_itt, w_itl, w_bindT1, w_bindT2, w_srcl, w_srct, w_cut2, w_cut1, w_cut1', w_cut0, w_ty1, w_ty2, w_ty3, w_ty4, w_ty5, w_ty6, w_ty7, w_ty8, w_ty9, w_ty10, w_ty11, w_ty12, w_ty13, w_ty14, w_ty15, w_ty16, w_ty17, w_ty18, w_ty19, w_ty20, w_ty21, w_mapc, w_mapn, w_appc, w_appn, w_repc, w_repn, w_start, w_lenc, w_ifT, w_ifF, w_ifFF, w_ifTF, w_nT, w_nF, w_anyT, w_anyF, w_d22, ifSome_some, ifLst_lst, ifTup_tup, ifInt_int, lget, lset, lsets, Nat.reduceSub, Nat.reduceAdd, List.length_nil, ↓reduceIte]
  rw [decide_eq_true a.pos]
  dsimp only [qS1, qS2, qS3, qS4, qS5, qS6, qS7, qS8, qS9, qS10, qS11, qS12, qS13, qS14, qS15, qS16, qS17, qS18, qE1, qE2, qE3, qE4, qE5, qE6, qE7, qE8, qE9, qE10, qE11, qE12, qE13, qE14, qE15, qE16, qE17, qE18, qE19, qE20, qE21, qE22, qEs1, qEs2, wpAll, qO1, qO2, qI1, qI2, qI3, w_add, w_addl, w_sub, w_mul, w_mull, w_fdiv, w_mod, w_pow, w_lt, w_le, w_gt, w_ge, w_eq, w_ne, w_eqt, w_eql, w_net, w_nel, w_isn, w_ist, w_isi, w_isl, w_abs, w_lent, w_lenl, w_intb, w_list, w_tuple, w_min, w_idxt0, w_idxt1, w_idxu0, w_idxu1, w_idxu2, w_idxl, w_slcl, w_slct, w_tb, w_ti, w_tn, w_tt, w_tl, w_itt, w_itl, w_bindT1, w_bindT2, w_srcl, w_srct, w_cut2, w_cut1, w_cut1', w_cut0, w_ty1, w_ty2, w_ty3, w_ty4, w_ty5, w_ty6, w_ty7, w_ty8, w_ty9, w_ty10, w_ty11, w_ty12, w_ty13, w_ty14, w_ty15, w_ty16, w_ty17, w_ty18, w_ty19, w_ty20, w_ty21, w_mapc, w_mapn, w_appc, w_appn, w_repc, w_repn, w_start, w_lenc, w_ifT, w_ifF, w_ifFF, w_ifTF, w_nT, w_nF, w_anyT, w_anyF, w_d22, ifSome_some, ifLst_lst, ifTup_tup, ifInt_int, lget, lset, lsets, Nat.reduceSub, Nat.reduceAdd, List.length_nil, ↓reduceIte]
  refine s_part ep ed a.pos (a.bot.mono hk) fun p' q' e1 e2 => ?_
  rw [a.one] at e1 e2
  have h1 : p' = p := by rw [← e1]; exact (Int.mul_one _).symm
  have h2 : q' = q := by rw [← e2]; exact (Int.mul_one _).symm
  subst h1 h2
  dsimp only [qS1, qS2, qS3, qS4, qS5, qS6, qS7, qS8, qS9, qS10, qS11, qS12, qS13, qS14, qS15, qS16, qS17, qS18, qE1, qE2, qE3, qE4, qE5, qE6, qE7, qE8, qE9, qE10, qE11, qE12, qE13, qE14, qE15, qE16, qE17, qE18, qE19, qE20, qE21, qE22, qEs1, qEs2, wpAll, qO1, qO2, qI1, qI2, qI3, w_add, w_addl, w_sub, w_mul, w_mull, w_fdiv, w_mod, w_pow, w_lt, w_le, w_gt, w_ge, w_eq, w_ne, w_eqt, w_eql, w_net, w_nel, w_isn, w_ist, w_isi, w_isl, w_abs, w_lent, w_lenl, w_intb, w_list, w_tuple, w_min, w_idxt0, w_idxt1, w_idxu0, w_idxu1, w_idxu2, w_idxl, w_slcl, w_slct, w_tb, w_ti, w_tn, w_tt, w_tl, w_itt, w_itl, w_bindT1, w_bindT2, w_srcl, w_srct, w_cut2, w_cut1, w_cut1', w_cut0, w_ty1, w_ty2, w_ty3, w_ty4, w_ty5, w_ty6, w_ty7, w_ty8, w_ty9, w_ty10, w_ty11, w_ty12, w_ty13, w_ty14, w_ty15, w_ty16, w_ty17, w_ty18, w_ty19, w_ty20, w_ty21, w_mapc, w_mapn, w_appc, w_appn, w_repc, w_repn, w_start, w_lenc, w_ifT, w_ifF, w_ifFF, w_ifTF, w_nT, w_nF, w_anyT, w_anyF, w_d22, ifSome_some, ifLst_lst, ifTup_tup, ifInt_int, lget, lset, lsets, Nat.reduceSub, Nat.reduceAdd, List.length_nil, ↓reduceIte]
  refine eqWp_pair ?_
  rw [decide_eq_true ⟨rfl, rfl⟩]; exact hQ

noncomputable def zWh (wh : Nat) : PE := (.comp (.var 0) 1 [] (.seq (.var 1)) (.some (.nt (.call wh (.cons (.var 0) .nil)))))
noncomputable def bIsPeg (wh sm ip va tu : Nat) : PS := (.seq (.ite (.or (.cons (.nt (.isi (.var 0) [.tuple])) (.cons (.cmp .ne (.bi .len (.cons (.var 0) .nil)) (.cint 3)) (.cons (.nt (.isi (.idx (.var 0) (.cint 0)) [.tuple])) .nil)))) (.seq (.ret (.cbool false)) .skip) .skip)
 (.seq (.assign 1 (.bi .list (.cons (.idx (.var 0) (.cint 0)) .nil)))
 (.seq (.ite (.or (.cons (.cmp .lt (.bi .len (.cons (.var 1) .nil)) (.cint 2)) (.cons (.cmp .gt (.bi .len (.cons (zWh wh) .nil)) (.cint 0)) (.cons (.cmp .lt (.idx (.var 1) (.neg (.cint 1))) (.cint 1)) .nil)))) (.seq (.ret (.cbool false)) .skip) .skip)
 (.seq (.ite (.or (.cons (.cmp .ne (.call sm (.cons (.var 1) .nil)) (.var 1)) (.cons (.nt (.call ip (.cons (.idx (.var 0) (.cint 1)) .nil))) (.cons (.nt (.call ip (.cons (.idx (.var 0) (.cint 2)) .nil))) .nil)))) (.seq (.ret (.cbool false)) .skip) .skip)
 (.seq (.assign 2 (.call va (.cons (.var 1) (.cons (.idx (.var 0) (.cint 1)) .nil))))
 (.seq (.assign 3 (.call va (.cons (.var 1) (.cons (.idx (.var 0) (.cint 2)) .nil))))
 (.seq (.ite (.or (.cons (.cmp .ge (.bin .mul (.idx (.idx (.var 0) (.cint 1)) (.cint 0)) (.idx (.idx (.var 0) (.cint 2)) (.cint 1))) (.bin .mul (.idx (.idx (.var 0) (.cint 2)) (.cint 0)) (.idx (.idx (.var 0) (.cint 1)) (.cint 1)))) (.cons (.cmp .eq (.var 2) (.cint 0)) (.cons (.cmp .eq (.var 3) (.cint 0)) .nil)))) (.seq (.ret (.cbool false)) .skip) .skip)
 (.seq (.ret (.cmp .eq (.call tu (.cons (.var 1) (.cons (.idx (.var 0) (.cint 1)) (.cons (.idx (.var 0) (.cint 2)) .nil)))) (.cint 1))) .skip))))))))
noncomputable def ngL : PE := .bin .sub (.cint 0) (.var 1)
theorem compGo_none {step : V → Hp → (Option V → Hp → Prop) → Prop} {H : Hp} : ∀ {xs : List V} {Q : List V → Hp → Prop}, (∀ x ∈ xs, ∀ k : Option V → Hp → Prop, k none H → step x H k) → Q [] H → compGo step xs H Q
  | [], _, _, h => h
  | x :: xs, Q, hs, h => hs x List.mem_cons_self _ (compGo_none (fun y hy => hs y (List.mem_cons_of_mem _ hy)) h)
/-- what makes a peg -/
structure IsPeg (k : Nat) (row : List Int) (l p1 q1 p2 q2 : Int) : Prop where
  len : 2 ≤ row.length
  len' : row.length ≤ 100
  last : row.getLast? = some l
  pos : 0 < l
  one : gAll row 0 = 1
  sm : AllSm k row
  low : Low k p1 q1
  high : Low k p2 q2
  lt : p1 * q2 < p2 * q1
  v1 : hval p1 q1 row ≠ 0
  v2 : hval p2 q2 row ≠ 0
  tv : Mine.tv 0 (hs (p1 * q2) (p2 * q1) (q1 * q2) row) = 1
theorem s_ispeg {wh sm ip va tu se by_ : Nat} (e : P[f]? = some ⟨1, 4, bIsPeg wh sm ip va tu⟩) (ew : P[wh]? = some ⟨1, 1, bWhole⟩) (es : P[sm]? = some ⟨1, 3, bRed dv ngL⟩) (ei : P[ip]? = some ⟨1, 1, bIsPart wh pa⟩) (ev : P[va]? = some ⟨2, 5, bVal⟩) (et : P[tu]? = some ⟨3, 6, bLTurns se⟩) (ese : P[se]? = some ⟨3, 7, bLSeen by_⟩) (eb : P[by_]? = some ⟨2, 5, bBy⟩)
    (ep : P[pa]? = some ⟨2, 3, bPart dv⟩) (ed : P[dv]? = some ⟨2, 3, bDiv⟩) {row : List Int} {l p1 q1 p2 q2 : Int} {k : Nat} (hk : k ≤ 1000) (I : IsPeg k row l p1 q1 p2 q2) (hQ : ∀ H', H <+: H' → Q (.bool true) H') :
    callN sub P (n + 4) f [.tup [.tup (row.map .int), .tup [.int p1, .int q1], .tup [.int p2, .int q2]]] H Q X := by
  have hl1 : 1 ≤ row.length := Nat.le_trans (by decide) I.len
  have kk : k ≤ 1048576 := Nat.le_trans hk (by decide)
  have hB : k + (k + k) + 2 + row.length * ((k + k) + 2) ≤ 1000000 := by
    have := Nat.mul_le_mul I.len' (show (k + k) + 2 ≤ 2002 by omega); omega
  have hBv : k + 1 + (row.length + 1) * (k + 2) ≤ 1000000 := by
    have := Nat.mul_le_mul (show row.length + 1 ≤ 101 from Nat.succ_le_succ I.len') (show k + 2 ≤ 1002 by omega); omega
  have hl9 : row.length ≤ 900 := Nat.le_trans I.len' (by decide)
  have m12 := IntMulOk.sm I.low.top I.high.bot kk kk
  have m21 := IntMulOk.sm I.high.top I.low.bot kk kk
  have mqq := IntMulOk.sm I.low.bot I.high.bot kk kk
  refine callN_mk e rfl ?_
  dsimp only [bIsPeg, qS1, qS2, qS3, qS4, qS5, qS6, qS7, qS8, qS9, qS10, qS11, qS12, qS13, qS14, qS15, qS16, qS17, qS18, qE1, qE2, qE3, qE4, qE5, qE6, qE7, qE8, qE9, qE10, qE11, qE12, qE13, qE14, qE15, qE16, qE17, qE18, qE19, qE20, qE21, qE22, qEs1, qEs2, wpAll, qO1, qO2, qI1, qI2, qI3, w_add, w_addl, w_sub, w_mul, w_mull, w_fdiv, w_mod, w_pow, w_lt, w_le, w_gt, w_ge, w_eq, w_ne, w_eqt, w_eql, w_net, w_nel, w_isn, w_ist, w_isi, w_isl, w_abs, w_lent, w_lenl, w_intb, w_list, w_tuple, w_min, w_idxt0, w_idxt1, w_idxu0, w_idxu1, w_idxu2, w_idxl, w_slcl, w_slct, w_tb, w_ti, w_tn, w_tt, w_tl, w_itt, w_itl, w_bindT1, w_bindT2, w_srcl, w_srct, w_cut2, w_cut1, w_cut1', w_cut0, w_ty1, w_ty2, w_ty3, w_ty4, w_ty5, w_ty6, w_ty7, w_ty8, w_ty9, w_ty10, w_ty11, w_ty12, w_ty13, w_ty14, w_ty15, w_ty16, w_ty17, w_ty18, w_ty19, w_ty20, w_ty21, w_mapc, w_mapn, w_appc, w_appn, w_repc, w_repn, w_start, w_lenc, w_ifT, w_ifF, w_ifFF, w_ifTF, w_nT, w_nF, w_anyT, w_anyF, w_d22, ifSome_some, ifLst_lst, ifTup_tup, ifInt_int, lget, lset, lsets, Nat.reduceSub, Nat.reduceAdd, List.length_nil, ↓reduceIte]
  refine ifSome.mk (v := [true]) rfl ?_
  refine (if_pos (show (![true].any id) = false from rfl)).mpr ?_
  refine (if_pos (show (!decide ((([V.tup (row.map .int), V.tup [.int p1, .int q1], V.tup [.int p2, .int q2]].length : Nat) : Int) = 3)) = false from rfl)).mpr ?_
  refine ifSome.mk (v := [true]) rfl ?_
  dsimp only [qS1, qS2, qS3, qS4, qS5, qS6, qS7, qS8, qS9, qS10, qS11, qS12, qS13, qS14, qS15, qS16, qS17, qS18, qE1, qE2, qE3, qE4, qE5, qE6, qE7, qE8, qE9, qE10, qE11, qE12, qE13, qE14, qE15, qE16, qE17, qE18, qE19, qE20, qE21, qE22, qEs1, qEs2, wpAll, qO1, qO2, qI1, qI2, qI3, w_add, w_addl, w_sub, w_mul, w_mull, w_fdiv, w_mod, w_pow, w_lt, w_le, w_gt, w_ge, w_eq, w_ne, w_eqt, w_eql, w_net, w_nel, w_isn, w_ist, w_isi, w_isl, w_abs, w_lent, w_lenl, w_intb, w_list, w_tuple, w_min, w_idxt0, w_idxt1, w_idxu0, w_idxu1, w_idxu2, w_idxl, w_slcl, w_slct, w_tb, w_ti, w_tn, w_tt, w_tl, w_itt, w_itl, w_bindT1, w_bindT2, w_srcl, w_srct, w_cut2, w_cut1, w_cut1', w_cut0, w_ty1, w_ty2, w_ty3, w_ty4, w_ty5, w_ty6, w_ty7, w_ty8, w_ty9, w_ty10, w_ty11, w_ty12, w_ty13, w_ty14, w_ty15, w_ty16, w_ty17, w_ty18, w_ty19, w_ty20, w_ty21, w_mapc, w_mapn, w_appc, w_appn, w_repc, w_repn, w_start, w_lenc, w_ifT, w_ifF, w_ifFF, w_ifTF, w_nT, w_nF, w_anyT, w_anyF, w_d22, ifSome_some, ifLst_lst, ifTup_tup, ifInt_int, lget, lset, lsets, Nat.reduceSub, Nat.reduceAdd, List.length_nil, ↓reduceIte]
  have hr : (H ++ [row.map V.int])[H.length]? = some (row.map V.int) := getApp _ _ _
  refine ifSome.mk hr ?_
  rw [List.length_map, decide_eq_false (show ¬ ((row.length : Nat) : Int) < 2 by have := I.len; omega)]
  dsimp only [zWh, qS1, qS2, qS3, qS4, qS5, qS6, qS7, qS8, qS9, qS10, qS11, qS12, qS13, qS14, qS15, qS16, qS17, qS18, qE1, qE2, qE3, qE4, qE5, qE6, qE7, qE8, qE9, qE10, qE11, qE12, qE13, qE14, qE15, qE16, qE17, qE18, qE19, qE20, qE21, qE22, qEs1, qEs2, wpAll, qO1, qO2, qI1, qI2, qI3, w_add, w_addl, w_sub, w_mul, w_mull, w_fdiv, w_mod, w_pow, w_lt, w_le, w_gt, w_ge, w_eq, w_ne, w_eqt, w_eql, w_net, w_nel, w_isn, w_ist, w_isi, w_isl, w_abs, w_lent, w_lenl, w_intb, w_list, w_tuple, w_min, w_idxt0, w_idxt1, w_idxu0, w_idxu1, w_idxu2, w_idxl, w_slcl, w_slct, w_tb, w_ti, w_tn, w_tt, w_tl, w_itt, w_itl, w_bindT1, w_bindT2, w_srcl, w_srct, w_cut2, w_cut1, w_cut1', w_cut0, w_ty1, w_ty2, w_ty3, w_ty4, w_ty5, w_ty6, w_ty7, w_ty8, w_ty9, w_ty10, w_ty11, w_ty12, w_ty13, w_ty14, w_ty15, w_ty16, w_ty17, w_ty18, w_ty19, w_ty20, w_ty21, w_mapc, w_mapn, w_appc, w_appn, w_repc, w_repn, w_start, w_lenc, w_ifT, w_ifF, w_ifFF, w_ifTF, w_nT, w_nF, w_anyT, w_anyF, w_d22, ifSome_some, ifLst_lst, ifTup_tup, ifInt_int, lget, lset, lsets, Nat.reduceSub, Nat.reduceAdd, List.length_nil, ↓reduceIte]
  refine ifSome.mk hr ⟨by rw [List.length_map]; exact Nat.le_trans I.len' (by decide), ?_⟩
  refine compGo_none (fun x hx k' hk' => ?_) ?_
  · obtain ⟨y, _, rfl⟩ := List.mem_map.mp hx
    exact s_whole ew hk'
  refine ifSome.mk (v := []) (getApp _ _ _) ?_
  dsimp only [qS1, qS2, qS3, qS4, qS5, qS6, qS7, qS8, qS9, qS10, qS11, qS12, qS13, qS14, qS15, qS16, qS17, qS18, qE1, qE2, qE3, qE4, qE5, qE6, qE7, qE8, qE9, qE10, qE11, qE12, qE13, qE14, qE15, qE16, qE17, qE18, qE19, qE20, qE21, qE22, qEs1, qEs2, wpAll, qO1, qO2, qI1, qI2, qI3, w_add, w_addl, w_sub, w_mul, w_mull, w_fdiv, w_mod, w_pow, w_lt, w_le, w_gt, w_ge, w_eq, w_ne, w_eqt, w_eql, w_net, w_nel, w_isn, w_ist, w_isi, w_isl, w_abs, w_lent, w_lenl, w_intb, w_list, w_tuple, w_min, w_idxt0, w_idxt1, w_idxu0, w_idxu1, w_idxu2, w_idxl, w_slcl, w_slct, w_tb, w_ti, w_tn, w_tt, w_tl, w_itt, w_itl, w_bindT1, w_bindT2, w_srcl, w_srct, w_cut2, w_cut1, w_cut1', w_cut0, w_ty1, w_ty2, w_ty3, w_ty4, w_ty5, w_ty6, w_ty7, w_ty8, w_ty9, w_ty10, w_ty11, w_ty12, w_ty13, w_ty14, w_ty15, w_ty16, w_ty17, w_ty18, w_ty19, w_ty20, w_ty21, w_mapc, w_mapn, w_appc, w_appn, w_repc, w_repn, w_start, w_lenc, w_ifT, w_ifF, w_ifFF, w_ifTF, w_nT, w_nF, w_anyT, w_anyF, w_d22, ifSome_some, ifLst_lst, ifTup_tup, ifInt_int, lget, lset, lsets, Nat.reduceSub, Nat.reduceAdd, List.length_nil, ↓reduceIte]
  have hp1 : H ++ [row.map V.int] <+: H ++ [row.map V.int] ++ [[]] := preApp _ _
  refine (if_pos (show decide ((0 : Int) < ((0 : Nat) : Int)) = false from rfl)).mpr ?_
  refine ifSome.mk (getKeep hp1 hr) (ifSome.mk (place_last (by rw [List.length_map]; exact hl1)) (ifSome.mk (v := .int l) ?_ ?_))
  · rw [List.length_map, List.getElem?_map, ← List.getLast?_eq_getElem?, I.last]; rfl
  dsimp only [qS1, qS2, qS3, qS4, qS5, qS6, qS7, qS8, qS9, qS10, qS11, qS12, qS13, qS14, qS15, qS16, qS17, qS18, qE1, qE2, qE3, qE4, qE5, qE6, qE7, qE8, qE9, qE10, qE11, qE12, qE13, qE14, qE15, qE16, qE17, qE18, qE19, qE20, qE21, qE22, qEs1, qEs2, wpAll, qO1, qO2, qI1, qI2, qI3, w_add, w_addl, w_sub, w_mul, w_mull, w_fdiv, w_mod, w_pow, w_lt, w_le, w_gt, w_ge, w_eq, w_ne, w_eqt, w_eql, w_net, w_nel, w_isn, w_ist, w_isi, w_isl, w_abs, w_lent, w_lenl, w_intb, w_list, w_tuple, w_min, w_idxt0, w_idxt1, w_idxu0, w_idxu1, w_idxu2, w_idxl, w_slcl, w_slct, w_tb, w_ti, w_tn, w_tt, w_tl, w_itt, w_itl, w_bindT1, w_bindT2, w_srcl, w_srct, w_cut2, w_cut1, w_cut1', w_cut0, w_ty1, w_ty2, w_ty3, w_ty4, w_ty5, w_ty6, w_ty7, w_ty8, w_ty9, w_ty10, w_ty11, w_ty12, w_ty13, w_ty14, w_ty15, w_ty16, w_ty17, w_ty18, w_ty19, w_ty20, w_ty21, w_mapc, w_mapn, w_appc, w_appn, w_repc, w_repn, w_start, w_lenc, w_ifT, w_ifF, w_ifFF, w_ifTF, w_nT, w_nF, w_anyT, w_anyF, w_d22, ifSome_some, ifLst_lst, ifTup_tup, ifInt_int, lget, lset, lsets, Nat.reduceSub, Nat.reduceAdd, List.length_nil, ↓reduceIte]
  rw [decide_eq_false (show ¬ l < 1 by have := I.pos; omega)]
  dsimp only [qS1, qS2, qS3, qS4, qS5, qS6, qS7, qS8, qS9, qS10, qS11, qS12, qS13, qS14, qS15, qS16, qS17, qS18, qE1, qE2, qE3, qE4, qE5, qE6, qE7, qE8, qE9, qE10, qE11, qE12, qE13, qE14, qE15, qE16, qE17, qE18, qE19, qE20, qE21, qE22, qEs1, qEs2, wpAll, qO1, qO2, qI1, qI2, qI3, w_add, w_addl, w_sub, w_mul, w_mull, w_fdiv, w_mod, w_pow, w_lt, w_le, w_gt, w_ge, w_eq, w_ne, w_eqt, w_eql, w_net, w_nel, w_isn, w_ist, w_isi, w_isl, w_abs, w_lent, w_lenl, w_intb, w_list, w_tuple, w_min, w_idxt0, w_idxt1, w_idxu0, w_idxu1, w_idxu2, w_idxl, w_slcl, w_slct, w_tb, w_ti, w_tn, w_tt, w_tl, w_itt, w_itl, w_bindT1, w_bindT2, w_srcl, w_srct, w_cut2, w_cut1, w_cut1', w_cut0, w_ty1, w_ty2, w_ty3, w_ty4, w_ty5, w_ty6, w_ty7, w_ty8, w_ty9, w_ty10, w_ty11, w_ty12, w_ty13, w_ty14, w_ty15, w_ty16, w_ty17, w_ty18, w_ty19, w_ty20, w_ty21, w_mapc, w_mapn, w_appc, w_appn, w_repc, w_repn, w_start, w_lenc, w_ifT, w_ifF, w_ifFF, w_ifTF, w_nT, w_nF, w_anyT, w_anyF, w_d22, ifSome_some, ifLst_lst, ifTup_tup, ifInt_int, lget, lset, lsets, Nat.reduceSub, Nat.reduceAdd, List.length_nil, ↓reduceIte]
  refine s_red (n := n + 2) (fun g ρ H' Z hg hz => ?_) es (fun a b H' Z X' hz => s_div ed hz) (v := .lst H.length) (getKeep hp1 hr) I.last (Int.ne_of_gt I.pos) ((I.sm l (List.mem_of_getLast? I.last)).mono (Nat.le_trans hk (by decide))) (Nat.le_trans I.len' (by decide)) ?_
  · dsimp only [ngL, qE1, qE2, qE3, qE4, qE5, qE6, qE7, qE8, qE9, qE10, qE11, qE12, qE13, qE14, qE15, qE16, qE17, qE18, qE19, qE20, qE21, qE22]
    refine ifSome.mk hg ?_
    show Z (.int (0 - g)) H'
    rw [Int.zero_sub]; exact hz
  rw [redI_one I.one I.pos]
  dsimp only [qS1, qS2, qS3, qS4, qS5, qS6, qS7, qS8, qS9, qS10, qS11, qS12, qS13, qS14, qS15, qS16, qS17, qS18, qE1, qE2, qE3, qE4, qE5, qE6, qE7, qE8, qE9, qE10, qE11, qE12, qE13, qE14, qE15, qE16, qE17, qE18, qE19, qE20, qE21, qE22, qEs1, qEs2, wpAll, qO1, qO2, qI1, qI2, qI3, w_add, w_addl, w_sub, w_mul, w_mull, w_fdiv, w_mod, w_pow, w_lt, w_le, w_gt, w_ge, w_eq, w_ne, w_eqt, w_eql, w_net, w_nel, w_isn, w_ist, w_isi, w_isl, w_abs, w_lent, w_lenl, w_intb, w_list, w_tuple, w_min, w_idxt0, w_idxt1, w_idxu0, w_idxu1, w_idxu2, w_idxl, w_slcl, w_slct, w_tb, w_ti, w_tn, w_tt, w_tl, w_itt, w_itl, w_bindT1, w_bindT2, w_srcl, w_srct, w_cut2, w_cut1, w_cut1', w_cut0, w_ty1, w_ty2, w_ty3, w_ty4, w_ty5, w_ty6, w_ty7, w_ty8, w_ty9, w_ty10, w_ty11, w_ty12, w_ty13, w_ty14, w_ty15, w_ty16, w_ty17, w_ty18, w_ty19, w_ty20, w_ty21, w_mapc, w_mapn, w_appc, w_appn, w_repc, w_repn, w_start, w_lenc, w_ifT, w_ifF, w_ifFF, w_ifTF, w_nT, w_nF, w_anyT, w_anyF, w_d22, ifSome_some, ifLst_lst, ifTup_tup, ifInt_int, lget, lset, lsets, Nat.reduceSub, Nat.reduceAdd, List.length_nil, ↓reduceIte]
  generalize hH2 : H ++ [row.map V.int] ++ [[]] = H2 at hp1
  have hr2 : H2[H.length]? = some (row.map V.int) := getKeep hp1 hr
  have hp0 : H <+: H2 := preTrans (preApp _ _) hp1
  refine eqWp_ints (getApp _ _ _) (getKeep (preApp _ _) hr2) ?_
  rw [decide_eq_true rfl]
  dsimp only [qS1, qS2, qS3, qS4, qS5, qS6, qS7, qS8, qS9, qS10, qS11, qS12, qS13, qS14, qS15, qS16, qS17, qS18, qE1, qE2, qE3, qE4, qE5, qE6, qE7, qE8, qE9, qE10, qE11, qE12, qE13, qE14, qE15, qE16, qE17, qE18, qE19, qE20, qE21, qE22, qEs1, qEs2, wpAll, qO1, qO2, qI1, qI2, qI3, w_add, w_addl, w_sub, w_mul, w_mull, w_fdiv, w_mod, w_pow, w_lt, w_le, w_gt, w_ge, w_eq, w_ne, w_eqt, w_eql, w_net, w_nel, w_isn, w_ist, w_isi, w_isl, w_abs, w_lent, w_lenl, w_intb, w_list, w_tuple, w_min, w_idxt0, w_idxt1, w_idxu0, w_idxu1, w_idxu2, w_idxl, w_slcl, w_slct, w_tb, w_ti, w_tn, w_tt, w_tl, w_itt, w_itl, w_bindT1, w_bindT2, w_srcl, w_srct, w_cut2, w_cut1, w_cut1', w_cut0, w_ty1, w_ty2, w_ty3, w_ty4, w_ty5, w_ty6, w_ty7, w_ty8, w_ty9, w_ty10, w_ty11, w_ty12, w_ty13, w_ty14, w_ty15, w_ty16, w_ty17, w_ty18, w_ty19, w_ty20, w_ty21, w_mapc, w_mapn, w_appc, w_appn, w_repc, w_repn, w_start, w_lenc, w_ifT, w_ifF, w_ifFF, w_ifTF, w_nT, w_nF, w_anyT, w_anyF, w_d22, ifSome_some, ifLst_lst, ifTup_tup, ifInt_int, lget, lset, lsets, Nat.reduceSub, Nat.reduceAdd, List.length_nil, ↓reduceIte]
  refine s_ispart ei ew ep ed I.low hk ?_
  dsimp only [qS1, qS2, qS3, qS4, qS5, qS6, qS7, qS8, qS9, qS10, qS11, qS12, qS13, qS14, qS15, qS16, qS17, qS18, qE1, qE2, qE3, qE4, qE5, qE6, qE7, qE8, qE9, qE10, qE11, qE12, qE13, qE14, qE15, qE16, qE17, qE18, qE19, qE20, qE21, qE22, qEs1, qEs2, wpAll, qO1, qO2, qI1, qI2, qI3, w_add, w_addl, w_sub, w_mul, w_mull, w_fdiv, w_mod, w_pow, w_lt, w_le, w_gt, w_ge, w_eq, w_ne, w_eqt, w_eql, w_net, w_nel, w_isn, w_ist, w_isi, w_isl, w_abs, w_lent, w_lenl, w_intb, w_list, w_tuple, w_min, w_idxt0, w_idxt1, w_idxu0, w_idxu1, w_idxu2, w_idxl, w_slcl, w_slct, w_tb, w_ti, w_tn, w_tt, w_tl, w_itt, w_itl, w_bindT1, w_bindT2, w_srcl, w_srct, w_cut2, w_cut1, w_cut1', w_cut0, w_ty1, w_ty2, w_ty3, w_ty4, w_ty5, w_ty6, w_ty7, w_ty8, w_ty9, w_ty10, w_ty11, w_ty12, w_ty13, w_ty14, w_ty15, w_ty16, w_ty17, w_ty18, w_ty19, w_ty20, w_ty21, w_mapc, w_mapn, w_appc, w_appn, w_repc, w_repn, w_start, w_lenc, w_ifT, w_ifF, w_ifFF, w_ifTF, w_nT, w_nF, w_anyT, w_anyF, w_d22, ifSome_some, ifLst_lst, ifTup_tup, ifInt_int, lget, lset, lsets, Nat.reduceSub, Nat.reduceAdd, List.length_nil, ↓reduceIte]
  refine s_ispart ei ew ep ed I.high hk ?_
  dsimp only [qS1, qS2, qS3, qS4, qS5, qS6, qS7, qS8, qS9, qS10, qS11, qS12, qS13, qS14, qS15, qS16, qS17, qS18, qE1, qE2, qE3, qE4, qE5, qE6, qE7, qE8, qE9, qE10, qE11, qE12, qE13, qE14, qE15, qE16, qE17, qE18, qE19, qE20, qE21, qE22, qEs1, qEs2, wpAll, qO1, qO2, qI1, qI2, qI3, w_add, w_addl, w_sub, w_mul, w_mull, w_fdiv, w_mod, w_pow, w_lt, w_le, w_gt, w_ge, w_eq, w_ne, w_eqt, w_eql, w_net, w_nel, w_isn, w_ist, w_isi, w_isl, w_abs, w_lent, w_lenl, w_intb, w_list, w_tuple, w_min, w_idxt0, w_idxt1, w_idxu0, w_idxu1, w_idxu2, w_idxl, w_slcl, w_slct, w_tb, w_ti, w_tn, w_tt, w_tl, w_itt, w_itl, w_bindT1, w_bindT2, w_srcl, w_srct, w_cut2, w_cut1, w_cut1', w_cut0, w_ty1, w_ty2, w_ty3, w_ty4, w_ty5, w_ty6, w_ty7, w_ty8, w_ty9, w_ty10, w_ty11, w_ty12, w_ty13, w_ty14, w_ty15, w_ty16, w_ty17, w_ty18, w_ty19, w_ty20, w_ty21, w_mapc, w_mapn, w_appc, w_appn, w_repc, w_repn, w_start, w_lenc, w_ifT, w_ifF, w_ifFF, w_ifTF, w_nT, w_nF, w_anyT, w_anyF, w_d22, ifSome_some, ifLst_lst, ifTup_tup, ifInt_int, lget, lset, lsets, Nat.reduceSub, Nat.reduceAdd, List.length_nil, ↓reduceIte]
  have hr3 : (H2 ++ [row.map V.int])[H.length]? = some (row.map V.int) := getKeep (preApp _ _) hr2
  refine s_val ev hr3 hl9 I.sm I.low.top I.low.bot hBv ?_
  refine s_val ev hr3 hl9 I.sm I.high.top I.high.bot hBv ?_
  dsimp only [qS1, qS2, qS3, qS4, qS5, qS6, qS7, qS8, qS9, qS10, qS11, qS12, qS13, qS14, qS15, qS16, qS17, qS18, qE1, qE2, qE3, qE4, qE5, qE6, qE7, qE8, qE9, qE10, qE11, qE12, qE13, qE14, qE15, qE16, qE17, qE18, qE19, qE20, qE21, qE22, qEs1, qEs2, wpAll, qO1, qO2, qI1, qI2, qI3, w_add, w_addl, w_sub, w_mul, w_mull, w_fdiv, w_mod, w_pow, w_lt, w_le, w_gt, w_ge, w_eq, w_ne, w_eqt, w_eql, w_net, w_nel, w_isn, w_ist, w_isi, w_isl, w_abs, w_lent, w_lenl, w_intb, w_list, w_tuple, w_min, w_idxt0, w_idxt1, w_idxu0, w_idxu1, w_idxu2, w_idxl, w_slcl, w_slct, w_tb, w_ti, w_tn, w_tt, w_tl, w_itt, w_itl, w_bindT1, w_bindT2, w_srcl, w_srct, w_cut2, w_cut1, w_cut1', w_cut0, w_ty1, w_ty2, w_ty3, w_ty4, w_ty5, w_ty6, w_ty7, w_ty8, w_ty9, w_ty10, w_ty11, w_ty12, w_ty13, w_ty14, w_ty15, w_ty16, w_ty17, w_ty18, w_ty19, w_ty20, w_ty21, w_mapc, w_mapn, w_appc, w_appn, w_repc, w_repn, w_start, w_lenc, w_ifT, w_ifF, w_ifFF, w_ifTF, w_nT, w_nF, w_anyT, w_anyF, w_d22, ifSome_some, ifLst_lst, ifTup_tup, ifInt_int, lget, lset, lsets, Nat.reduceSub, Nat.reduceAdd, List.length_nil, ↓reduceIte]
  refine ⟨m12, m21, ?_⟩
  rw [decide_eq_false (Int.not_le.mpr I.lt), decide_eq_false I.v1, decide_eq_false I.v2]
  dsimp only [qS1, qS2, qS3, qS4, qS5, qS6, qS7, qS8, qS9, qS10, qS11, qS12, qS13, qS14, qS15, qS16, qS17, qS18, qE1, qE2, qE3, qE4, qE5, qE6, qE7, qE8, qE9, qE10, qE11, qE12, qE13, qE14, qE15, qE16, qE17, qE18, qE19, qE20, qE21, qE22, qEs1, qEs2, wpAll, qO1, qO2, qI1, qI2, qI3, w_add, w_addl, w_sub, w_mul, w_mull, w_fdiv, w_mod, w_pow, w_lt, w_le, w_gt, w_ge, w_eq, w_ne, w_eqt, w_eql, w_net, w_nel, w_isn, w_ist, w_isi, w_isl, w_abs, w_lent, w_lenl, w_intb, w_list, w_tuple, w_min, w_idxt0, w_idxt1, w_idxu0, w_idxu1, w_idxu2, w_idxl, w_slcl, w_slct, w_tb, w_ti, w_tn, w_tt, w_tl, w_itt, w_itl, w_bindT1, w_bindT2, w_srcl, w_srct, w_cut2, w_cut1, w_cut1', w_cut0, w_ty1, w_ty2, w_ty3, w_ty4, w_ty5, w_ty6, w_ty7, w_ty8, w_ty9, w_ty10, w_ty11, w_ty12, w_ty13, w_ty14, w_ty15, w_ty16, w_ty17, w_ty18, w_ty19, w_ty20, w_ty21, w_mapc, w_mapn, w_appc, w_appn, w_repc, w_repn, w_start, w_lenc, w_ifT, w_ifF, w_ifFF, w_ifTF, w_nT, w_nF, w_anyT, w_anyF, w_d22, ifSome_some, ifLst_lst, ifTup_tup, ifInt_int, lget, lset, lsets, Nat.reduceSub, Nat.reduceAdd, List.length_nil, ↓reduceIte]
  refine s_lturns et ese eb hr3 hl9 I.sm (I.low.top.mul I.high.bot) (I.high.top.mul I.low.bot) (I.low.bot.mul I.high.bot) m12 m21 mqq hB fun H4 hp4 => ?_
  rw [I.tv]
  exact hQ _ (preTrans (preTrans hp0 (preApp _ _)) hp4)
end
end Mine

set_option autoImplicit false
set_option maxRecDepth 100000
namespace Mine
namespace L05
open PySem
/- 0: divisor(one, other) rank 1; vars 0=one, 1=other, 2=rest -/
noncomputable def t_divisor_1 : PS := (.seq (.ret (.var 0))
 .skip)
noncomputable def c_divisor_1 : PE := (.cmp .gt (.var 1) (.cint 0))
noncomputable def l_divisor_1 : PS := (.seq (.assign 2 (.bin .mod (.var 0) (.var 1)))
 (.seq (.assign 0 (.var 1))
 (.seq (.assign 1 (.var 2))
 .skip)))
noncomputable def b_divisor : PS := (.seq (.assign 0 (.bi .abs (.cons (.var 0) .nil)))
 (.seq (.assign 1 (.bi .abs (.cons (.var 1) .nil)))
 (.seq (.whl c_divisor_1 l_divisor_1)
 t_divisor_1)))
noncomputable def v_divisor : List Str := ["one", "other", "rest"]
/- 1: part(top, bottom) rank 2; vars 0=top, 1=bottom, 2=many -/
noncomputable def t_part_1 : PS := (.seq (.ret (.tup (.cons (.bin .fdiv (.var 0) (.var 2)) (.cons (.bin .fdiv (.var 1) (.var 2)) .nil))))
 .skip)
noncomputable def t_part_2 : PS := (.seq (.assign 2 (.call 0 (.cons (.var 0) (.cons (.var 1) .nil))))
 (.seq (.ite (.cmp .lt (.var 1) (.cint 0)) (.seq (.assign 2 (.neg (.var 2)))
 .skip) .skip)
 t_part_1))
noncomputable def b_part : PS := (.seq (.ite (.cmp .eq (.var 1) (.cint 0)) (.seq (.raise 1)
 .skip) .skip)
 t_part_2)
noncomputable def v_part : List Str := ["top", "bottom", "many"]
/- 2: below(one, other) rank 1; vars 0=one, 1=other -/
noncomputable def b_below : PS := (.seq (.ret (.cmp .lt (.bin .mul (.idx (.var 0) (.cint 0)) (.idx (.var 1) (.cint 1))) (.bin .mul (.idx (.var 1) (.cint 0)) (.idx (.var 0) (.cint 1)))))
 .skip)
noncomputable def v_below : List Str := ["one", "other"]
/- 3: part_sum(one, other) rank 3; vars 0=one, 1=other -/
noncomputable def b_part_sum : PS := (.seq (.ret (.call 1 (.cons (.bin .add (.bin .mul (.idx (.var 0) (.cint 0)) (.idx (.var 1) (.cint 1))) (.bin .mul (.idx (.var 1) (.cint 0)) (.idx (.var 0) (.cint 1)))) (.cons (.bin .mul (.idx (.var 0) (.cint 1)) (.idx (.var 1) (.cint 1))) .nil))))
 .skip)
noncomputable def v_part_sum : List Str := ["one", "other"]
/- 4: sign_at(row, at) rank 1; vars 0=row, 1=at, 2=value, 3=scale, 4=number -/
noncomputable def t_sign_at_1 : PS := (.seq (.ret (.bi .int (.cons (.cmp .gt (.var 2) (.cint 0)) .nil)))
 .skip)
noncomputable def t_sign_at_2 : PS := (.seq (.ite (.cmp .lt (.var 2) (.cint 0)) (.seq (.ret (.neg (.cint 1)))
 .skip) .skip)
 t_sign_at_1)
noncomputable def l_sign_at_1 : PS := (.seq (.assign 2 (.bin .add (.bin .mul (.var 2) (.idx (.var 1) (.cint 0))) (.bin .mul (.var 4) (.var 3))))
 (.seq (.assign 3 (.bin .mul (.var 3) (.idx (.var 1) (.cint 1))))
 .skip))
noncomputable def b_sign_at : PS := (.seq (.assign 2 (.cint 0))
 (.seq (.assign 3 (.cint 1))
 (.seq (.forr 4 (.rev (.var 0)) l_sign_at_1)
 t_sign_at_2)))
noncomputable def v_sign_at : List Str := ["row", "at", "value", "scale", "number"]
/- 5: reduced(row) rank 2; vars 0=row, 1=many, 2=number -/
noncomputable def e_reduced_1 : PE := (.bin .fdiv (.var 0) (.var 1))
noncomputable def t_reduced_1 : PS := (.seq (.ret (.comp e_reduced_1 1 [1] (.seq (.var 0)) .no))
 .skip)
noncomputable def t_reduced_2 : PS := (.seq (.ite (.cmp .lt (.idx (.var 0) (.neg (.cint 1))) (.cint 0)) (.seq (.assign 1 (.neg (.var 1)))
 .skip) .skip)
 t_reduced_1)
noncomputable def l_reduced_1 : PS := (.seq (.assign 1 (.call 0 (.cons (.var 1) (.cons (.var 2) .nil))))
 .skip)
noncomputable def b_reduced : PS := (.seq (.assign 1 (.cint 0))
 (.seq (.forr 2 (.seq (.var 0)) l_reduced_1)
 t_reduced_2))
noncomputable def v_reduced : List Str := ["row", "many", "number"]
/- 6: multiplied(row, first, second) rank 1; vars 0=row, 1=first, 2=second, 3=found, 4=k -/
noncomputable def t_multiplied_1 : PS := (.seq (.ret (.var 3))
 .skip)
noncomputable def l_multiplied_1 : PS := (.seq (.setidx 3 (.var 4) (.bin .add (.idx (.var 3) (.var 4)) (.bin .mul (.idx (.var 0) (.var 4)) (.var 1))))
 (.seq (.setidx 3 (.bin .add (.var 4) (.cint 1)) (.bin .add (.idx (.var 3) (.bin .add (.var 4) (.cint 1))) (.bin .mul (.idx (.var 0) (.var 4)) (.var 2))))
 .skip))
noncomputable def b_multiplied : PS := (.seq (.assign 3 (.bin .mul (.lst (.cons (.cint 0) .nil)) (.bin .add (.bi .len (.cons (.var 0) .nil)) (.cint 1))))
 (.seq (.forr 4 (.rng (.cons (.bi .len (.cons (.var 0) .nil)) .nil)) l_multiplied_1)
 t_multiplied_1))
noncomputable def v_multiplied : List Str := ["row", "first", "second", "found", "k"]
/- 7: seen(row, low, high) rank 2; vars 0=row, 1=low, 2=high, 3=begin, 4=end, 5=scale, 6=found, 7=power, 8=number -/
noncomputable def t_seen_1 : PS := (.seq (.ret (.var 6))
 .skip)
noncomputable def e_seen_1 : PE := (.bin .add (.idx (.var 1) (.var 0)) (.bin .mul (.var 2) (.idx (.var 3) (.var 0))))
noncomputable def l_seen_1 : PS := (.seq (.assign 7 (.call 6 (.cons (.var 7) (.cons (.var 5) (.cons (.var 5) .nil)))))
 (.seq (.assign 6 (.call 6 (.cons (.var 6) (.cons (.var 3) (.cons (.var 4) .nil)))))
 (.seq (.assign 6 (.comp e_seen_1 1 [6, 8, 7] (.rng (.cons (.bi .len (.cons (.var 6) .nil)) .nil)) .no))
 .skip)))
noncomputable def b_seen : PS := (.seq (.assign 3 (.bin .mul (.idx (.var 1) (.cint 0)) (.idx (.var 2) (.cint 1))))
 (.seq (.assign 4 (.bin .mul (.idx (.var 2) (.cint 0)) (.idx (.var 1) (.cint 1))))
 (.seq (.assign 5 (.bin .mul (.idx (.var 1) (.cint 1)) (.idx (.var 2) (.cint 1))))
 (.seq (.assign 6 (.lst (.cons (.idx (.var 0) (.neg (.cint 1))) .nil)))
 (.seq (.assign 7 (.lst (.cons (.cint 1) .nil)))
 (.seq (.forr 8 (.rev (.slc (.var 0) .no (.some (.neg (.cint 1))))) l_seen_1)
 t_seen_1))))))
noncomputable def v_seen : List Str := ["row", "low", "high", "begin", "end", "scale", "found", "power", "number"]
/- 8: turns(row, low, high) rank 3; vars 0=row, 1=low, 2=high, 3=many, 4=ahead, 5=number -/
noncomputable def t_turns_1 : PS := (.seq (.ret (.var 3))
 .skip)
noncomputable def t_turns_2 : PS := (.seq (.assign 4 (.var 5))
 .skip)
noncomputable def l_turns_1 : PS := (.seq (.ite (.cmp .ne (.var 5) (.cint 0)) (.seq (.ite (.cmp .lt (.bin .mul (.var 4) (.var 5)) (.cint 0)) (.seq (.assign 3 (.bin .add (.var 3) (.cint 1)))
 .skip) .skip)
 t_turns_2) .skip)
 .skip)
noncomputable def b_turns : PS := (.seq (.assign 3 (.cint 0))
 (.seq (.assign 4 (.cint 0))
 (.seq (.forr 5 (.seq (.call 7 (.cons (.var 0) (.cons (.var 1) (.cons (.var 2) .nil))))) l_turns_1)
 t_turns_1)))
noncomputable def v_turns : List Str := ["row", "low", "high", "many", "ahead", "number"]
/- 9: is_alone(row, low, high) rank 4; vars 0=row, 1=low, 2=high -/
noncomputable def b_is_alone : PS := (.seq (.ret (.and (.cons (.cmp .ne (.call 4 (.cons (.var 0) (.cons (.var 1) .nil))) (.cint 0)) (.cons (.cmp .ne (.call 4 (.cons (.var 0) (.cons (.var 2) .nil))) (.cint 0)) (.cons (.cmp .eq (.call 8 (.cons (.var 0) (.cons (.var 1) (.cons (.var 2) .nil)))) (.cint 1)) .nil)))))
 .skip)
noncomputable def v_is_alone : List Str := ["row", "low", "high"]
/- 10: peg(row, low, high) rank 5; vars 0=row, 1=low, 2=high -/
noncomputable def t_peg_1 : PS := (.seq (.ret (.tup (.cons (.bi .tuple (.cons (.call 5 (.cons (.var 0) .nil)) .nil)) (.cons (.var 1) (.cons (.var 2) .nil)))))
 .skip)
noncomputable def t_peg_2 : PS := (.seq (.ite (.nt (.call 9 (.cons (.var 0) (.cons (.var 1) (.cons (.var 2) .nil))))) (.seq (.raise 4)
 .skip) .skip)
 t_peg_1)
noncomputable def t_peg_3 : PS := (.seq (.ite (.nt (.call 2 (.cons (.var 1) (.cons (.var 2) .nil)))) (.seq (.raise 3)
 .skip) .skip)
 t_peg_2)
noncomputable def b_peg : PS := (.seq (.ite (.or (.cons (.cmp .lt (.bi .len (.cons (.var 0) .nil)) (.cint 2)) (.cons (.cmp .eq (.idx (.var 0) (.neg (.cint 1))) (.cint 0)) .nil))) (.seq (.raise 2)
 .skip) .skip)
 t_peg_3)
noncomputable def v_peg : List Str := ["row", "low", "high"]
/- 11: of_part(at) rank 4; vars 0=at -/
noncomputable def b_of_part : PS := (.seq (.ret (.tup (.cons (.tup (.cons (.neg (.idx (.var 0) (.cint 0))) (.cons (.idx (.var 0) (.cint 1)) .nil))) (.cons (.call 3 (.cons (.var 0) (.cons (.tup (.cons (.neg (.cint 1)) (.cons (.cint 1) .nil))) .nil))) (.cons (.call 3 (.cons (.var 0) (.cons (.tup (.cons (.cint 1) (.cons (.cint 1) .nil))) .nil))) .nil)))))
 .skip)
noncomputable def v_of_part : List Str := ["at"]
/- 12: _law_whole(_law_found) rank 1; vars 0=_law_found -/
noncomputable def b_law_whole : PS := (.seq (.ret (.and (.cons (.isi (.var 0) [.int]) (.cons (.nt (.isi (.var 0) [.bool])) .nil))))
 .skip)
noncomputable def v_law_whole : List Str := ["_law_found"]
/- 13: _law_cell_at(_law_script, _law_k) rank 1; vars 0=_law_script, 1=_law_k -/
noncomputable def t_law_cell_at_1 : PS := (.seq (.ret (.cint 0))
 .skip)
noncomputable def b_law_cell_at : PS := (.seq (.ite (.cmp .lt (.var 1) (.bi .len (.cons (.var 0) .nil))) (.seq (.ret (.idx (.var 0) (.var 1)))
 .skip) .skip)
 t_law_cell_at_1)
noncomputable def v_law_cell_at : List Str := ["_law_script", "_law_k"]
/- 14: _law_divisor(_law_one, _law_other) rank 1; vars 0=_law_one, 1=_law_other, 2=_law_over -/
noncomputable def t_law_divisor_1 : PS := (.seq (.ret (.bi .abs (.cons (.var 0) .nil)))
 .skip)
noncomputable def c_law_divisor_1 : PE := (.cmp .ne (.var 1) (.cint 0))
noncomputable def l_law_divisor_1 : PS := (.seq (.assign 2 (.bin .mod (.var 0) (.var 1)))
 (.seq (.assign 0 (.var 1))
 (.seq (.assign 1 (.var 2))
 .skip)))
noncomputable def b_law_divisor : PS := (.seq (.whl c_law_divisor_1 l_law_divisor_1)
 t_law_divisor_1)
noncomputable def v_law_divisor : List Str := ["_law_one", "_law_other", "_law_over"]
/- 15: _law_part(_law_top, _law_bottom) rank 2; vars 0=_law_top, 1=_law_bottom, 2=_law_by_here -/
noncomputable def t_law_part_1 : PS := (.seq (.ret (.tup (.cons (.bin .fdiv (.var 0) (.var 2)) (.cons (.bin .fdiv (.var 1) (.var 2)) .nil))))
 .skip)
noncomputable def b_law_part : PS := (.seq (.assign 2 (.call 14 (.cons (.var 0) (.cons (.var 1) .nil))))
 (.seq (.ite (.cmp .lt (.var 1) (.cint 0)) (.seq (.assign 2 (.bin .sub (.cint 0) (.var 2)))
 .skip) .skip)
 t_law_part_1))
noncomputable def v_law_part : List Str := ["_law_top", "_law_bottom", "_law_by_here"]
/- 16: _law_smallest(_law_row_here) rank 2; vars 0=_law_row_here, 1=_law_by_here, 2=_law_one -/
noncomputable def e_law_smallest_1 : PE := (.bin .fdiv (.var 0) (.var 1))
noncomputable def t_law_smallest_1 : PS := (.seq (.ret (.comp e_law_smallest_1 1 [1] (.seq (.var 0)) .no))
 .skip)
noncomputable def t_law_smallest_2 : PS := (.seq (.ite (.cmp .lt (.idx (.var 0) (.neg (.cint 1))) (.cint 0)) (.seq (.assign 1 (.bin .sub (.cint 0) (.var 1)))
 .skip) .skip)
 t_law_smallest_1)
noncomputable def l_law_smallest_1 : PS := (.seq (.assign 1 (.call 14 (.cons (.var 1) (.cons (.var 2) .nil))))
 .skip)
noncomputable def b_law_smallest : PS := (.seq (.assign 1 (.cint 0))
 (.seq (.forr 2 (.seq (.var 0)) l_law_smallest_1)
 t_law_smallest_2))
noncomputable def v_law_smallest : List Str := ["_law_row_here", "_law_by_here", "_law_one"]
/- 17: _law_value(_law_row_here, _law_at) rank 1; vars 0=_law_row_here, 1=_law_at, 2=_law_total, 3=_law_scale, 4=_law_k -/
noncomputable def t_law_value_1 : PS := (.seq (.ret (.var 2))
 .skip)
noncomputable def l_law_value_1 : PS := (.seq (.assign 2 (.bin .add (.bin .mul (.var 2) (.idx (.var 1) (.cint 0))) (.bin .mul (.idx (.var 0) (.var 4)) (.var 3))))
 (.seq (.assign 3 (.bin .mul (.var 3) (.idx (.var 1) (.cint 1))))
 .skip))
noncomputable def b_law_value : PS := (.seq (.assign 2 (.cint 0))
 (.seq (.assign 3 (.cint 1))
 (.seq (.forr 4 (.rng (.cons (.bin .sub (.bi .len (.cons (.var 0) .nil)) (.cint 1)) (.cons (.neg (.cint 1)) (.cons (.neg (.cint 1)) .nil)))) l_law_value_1)
 t_law_value_1)))
noncomputable def v_law_value : List Str := ["_law_row_here", "_law_at", "_law_total", "_law_scale", "_law_k"]
/- 18: _law_by(_law_row_here, _law_other) rank 1; vars 0=_law_row_here, 1=_law_other, 2=_law_found, 3=_law_k, 4=_law_j -/
noncomputable def t_law_by_1 : PS := (.seq (.ret (.var 2))
 .skip)
noncomputable def l_law_by_1 : PS := (.seq (.setidx 2 (.bin .add (.var 3) (.var 4)) (.bin .add (.idx (.var 2) (.bin .add (.var 3) (.var 4))) (.bin .mul (.idx (.var 0) (.var 3)) (.idx (.var 1) (.var 4)))))
 .skip)
noncomputable def l_law_by_2 : PS := (.seq (.forr 4 (.rng (.cons (.bi .len (.cons (.var 1) .nil)) .nil)) l_law_by_1)
 .skip)
noncomputable def e_law_by_1 : PE := (.cint 0)
noncomputable def b_law_by : PS := (.seq (.assign 2 (.comp e_law_by_1 1 [] (.rng (.cons (.bin .sub (.bin .add (.bi .len (.cons (.var 0) .nil)) (.bi .len (.cons (.var 1) .nil))) (.cint 1)) .nil)) .no))
 (.seq (.forr 3 (.rng (.cons (.bi .len (.cons (.var 0) .nil)) .nil)) l_law_by_2)
 t_law_by_1))
noncomputable def v_law_by : List Str := ["_law_row_here", "_law_other", "_law_found", "_law_k", "_law_j"]
/- 19: _law_seen(_law_row_here, _law_low, _law_high) rank 2; vars 0=_law_row_here, 1=_law_low, 2=_law_high, 3=_law_found, 4=_law_k, 5=_law_made, 6=_law_j -/
noncomputable def t_law_seen_1 : PS := (.seq (.ret (.var 3))
 .skip)
noncomputable def e_law_seen_1 : PE := (.bin .add (.idx (.var 1) (.var 0)) (.idx (.var 2) (.var 0)))
noncomputable def t_law_seen_2 : PS := (.seq (.assign 3 (.comp e_law_seen_1 1 [3, 5] (.rng (.cons (.bi .len (.cons (.var 0) .nil)) .nil)) .no))
 .skip)
noncomputable def l_law_seen_1 : PS := (.seq (.ite (.cmp .lt (.var 6) (.var 4)) (.seq (.assign 5 (.call 18 (.cons (.var 5) (.cons (.lst (.cons (.bin .mul (.idx (.var 1) (.cint 0)) (.idx (.var 2) (.cint 1))) (.cons (.bin .mul (.idx (.var 2) (.cint 0)) (.idx (.var 1) (.cint 1))) .nil))) .nil))))
 .skip) (.seq (.assign 5 (.call 18 (.cons (.var 5) (.cons (.lst (.cons (.bin .mul (.idx (.var 1) (.cint 1)) (.idx (.var 2) (.cint 1))) (.cons (.bin .mul (.idx (.var 1) (.cint 1)) (.idx (.var 2) (.cint 1))) .nil))) .nil))))
 .skip))
 .skip)
noncomputable def l_law_seen_2 : PS := (.seq (.assign 5 (.lst (.cons (.idx (.var 0) (.var 4)) .nil)))
 (.seq (.forr 6 (.rng (.cons (.bin .sub (.bi .len (.cons (.var 0) .nil)) (.cint 1)) .nil)) l_law_seen_1)
 t_law_seen_2))
noncomputable def e_law_seen_2 : PE := (.cint 0)
noncomputable def b_law_seen : PS := (.seq (.assign 3 (.comp e_law_seen_2 1 [] (.seq (.var 0)) .no))
 (.seq (.forr 4 (.rng (.cons (.bi .len (.cons (.var 0) .nil)) .nil)) l_law_seen_2)
 t_law_seen_1))
noncomputable def v_law_seen : List Str := ["_law_row_here", "_law_low", "_law_high", "_law_found", "_law_k", "_law_made", "_law_j"]
/- 20: _law_turns(_law_row_here, _law_low, _law_high) rank 3; vars 0=_law_row_here, 1=_law_low, 2=_law_high, 3=_law_count, 4=_law_last, 5=_law_one -/
noncomputable def t_law_turns_1 : PS := (.seq (.ret (.var 3))
 .skip)
noncomputable def t_law_turns_2 : PS := (.seq (.ite (.cmp .ne (.var 5) (.cint 0)) (.seq (.assign 4 (.var 5))
 .skip) .skip)
 .skip)
noncomputable def l_law_turns_1 : PS := (.seq (.ite (.cmp .lt (.bin .mul (.var 5) (.var 4)) (.cint 0)) (.seq (.assign 3 (.bin .add (.var 3) (.cint 1)))
 .skip) .skip)
 t_law_turns_2)
noncomputable def b_law_turns : PS := (.seq (.assign 3 (.cint 0))
 (.seq (.assign 4 (.cint 0))
 (.seq (.forr 5 (.seq (.call 19 (.cons (.var 0) (.cons (.var 1) (.cons (.var 2) .nil))))) l_law_turns_1)
 t_law_turns_1)))
noncomputable def v_law_turns : List Str := ["_law_row_here", "_law_low", "_law_high", "_law_count", "_law_last", "_law_one"]
/- 21: _law_is_part(_law_found) rank 3; vars 0=_law_found -/
noncomputable def t_law_is_part_1 : PS := (.seq (.ret (.and (.cons (.cmp .gt (.idx (.var 0) (.cint 1)) (.cint 0)) (.cons (.cmp .eq (.call 15 (.cons (.idx (.var 0) (.cint 0)) (.cons (.idx (.var 0) (.cint 1)) .nil))) (.var 0)) .nil))))
 .skip)
noncomputable def b_law_is_part : PS := (.seq (.ite (.or (.cons (.nt (.isi (.var 0) [.tuple])) (.cons (.cmp .ne (.bi .len (.cons (.var 0) .nil)) (.cint 2)) (.cons (.nt (.call 12 (.cons (.idx (.var 0) (.cint 0)) .nil))) (.cons (.nt (.call 12 (.cons (.idx (.var 0) (.cint 1)) .nil))) .nil))))) (.seq (.ret (.cbool false))
 .skip) .skip)
 t_law_is_part_1)
noncomputable def v_law_is_part : List Str := ["_law_found"]
/- 22: _law_is_peg(_law_found) rank 4; vars 0=_law_found, 1=_law_row_here, 2=_law_low, 3=_law_high -/
noncomputable def t_law_is_peg_1 : PS := (.seq (.ret (.cmp .eq (.call 20 (.cons (.var 1) (.cons (.idx (.var 0) (.cint 1)) (.cons (.idx (.var 0) (.cint 2)) .nil)))) (.cint 1)))
 .skip)
noncomputable def t_law_is_peg_2 : PS := (.seq (.assign 2 (.call 17 (.cons (.var 1) (.cons (.idx (.var 0) (.cint 1)) .nil))))
 (.seq (.assign 3 (.call 17 (.cons (.var 1) (.cons (.idx (.var 0) (.cint 2)) .nil))))
 (.seq (.ite (.or (.cons (.cmp .ge (.bin .mul (.idx (.idx (.var 0) (.cint 1)) (.cint 0)) (.idx (.idx (.var 0) (.cint 2)) (.cint 1))) (.bin .mul (.idx (.idx (.var 0) (.cint 2)) (.cint 0)) (.idx (.idx (.var 0) (.cint 1)) (.cint 1)))) (.cons (.cmp .eq (.var 2) (.cint 0)) (.cons (.cmp .eq (.var 3) (.cint 0)) .nil)))) (.seq (.ret (.cbool false))
 .skip) .skip)
 t_law_is_peg_1)))
noncomputable def t_law_is_peg_3 : PS := (.seq (.ite (.or (.cons (.cmp .ne (.call 16 (.cons (.var 1) .nil)) (.var 1)) (.cons (.nt (.call 21 (.cons (.idx (.var 0) (.cint 1)) .nil))) (.cons (.nt (.call 21 (.cons (.idx (.var 0) (.cint 2)) .nil))) .nil)))) (.seq (.ret (.cbool false))
 .skip) .skip)
 t_law_is_peg_2)
noncomputable def d_law_is_peg_1 : PO := (.some (.nt (.call 12 (.cons (.var 0) .nil))))
noncomputable def e_law_is_peg_1 : PE := (.var 0)
noncomputable def t_law_is_peg_4 : PS := (.seq (.assign 1 (.bi .list (.cons (.idx (.var 0) (.cint 0)) .nil)))
 (.seq (.ite (.or (.cons (.cmp .lt (.bi .len (.cons (.var 1) .nil)) (.cint 2)) (.cons (.cmp .gt (.bi .len (.cons (.comp e_law_is_peg_1 1 [] (.seq (.var 1)) d_law_is_peg_1) .nil)) (.cint 0)) (.cons (.cmp .lt (.idx (.var 1) (.neg (.cint 1))) (.cint 1)) .nil)))) (.seq (.ret (.cbool false))
 .skip) .skip)
 t_law_is_peg_3))
noncomputable def b_law_is_peg : PS := (.seq (.ite (.or (.cons (.nt (.isi (.var 0) [.tuple])) (.cons (.cmp .ne (.bi .len (.cons (.var 0) .nil)) (.cint 3)) (.cons (.nt (.isi (.idx (.var 0) (.cint 0)) [.tuple])) .nil)))) (.seq (.ret (.cbool false))
 .skip) .skip)
 t_law_is_peg_4)
noncomputable def v_law_is_peg : List Str := ["_law_found", "_law_row_here", "_law_low", "_law_high"]
/- 23: _law_row(_law_script, _law_k, _law_many) rank 2; vars 0=_law_script, 1=_law_k, 2=_law_many, 3=_law_row_here, 4=_law_cell -/
noncomputable def t_law_row_1 : PS := (.seq (.ret (.var 3))
 .skip)
noncomputable def l_law_row_1 : PS := (.seq (.ite (.cmp .eq (.bin .mod (.call 13 (.cons (.var 0) (.cons (.cint 1) .nil))) (.cint 4)) (.cint 1)) (.seq (.app 3 (.bin .sub (.bin .mod (.var 4) (.bin .mul (.cint 2) (.bin .pow (.cint 10) (.cint 20)))) (.bin .pow (.cint 10) (.cint 20))))
 .skip) (.seq (.app 3 (.bin .sub (.bin .mod (.var 4) (.cint 19)) (.cint 9)))
 .skip))
 .skip)
noncomputable def b_law_row : PS := (.seq (.assign 3 (.lst .nil))
 (.seq (.forr 4 (.seq (.slc (.var 0) (.some (.var 1)) (.some (.bin .add (.var 1) (.var 2))))) l_law_row_1)
 t_law_row_1))
noncomputable def v_law_row : List Str := ["_law_script", "_law_k", "_law_many", "_law_row_here", "_law_cell"]
/- 24: _law_end(_law_cell, _law_more) rank 3; vars 0=_law_cell, 1=_law_more -/
noncomputable def t_law_end_1 : PS := (.seq (.ret (.call 15 (.cons (.bin .sub (.bin .mod (.var 0) (.cint 41)) (.cint 20)) (.cons (.bin .add (.cint 1) (.bin .mod (.bin .fdiv (.var 1) (.cint 5)) (.cint 9))) .nil))))
 .skip)
noncomputable def b_law_end : PS := (.seq (.ite (.cmp .eq (.bin .mod (.var 1) (.cint 5)) (.cint 1)) (.seq (.ret (.call 15 (.cons (.bin .sub (.bin .mod (.var 0) (.bin .mul (.cint 2) (.bin .pow (.cint 10) (.cint 12)))) (.bin .pow (.cint 10) (.cint 12))) (.cons (.bin .add (.cint 1) (.bin .mod (.bin .fdiv (.var 1) (.cint 5)) (.bin .pow (.cint 10) (.cint 12)))) .nil))))
 .skip) .skip)
 t_law_end_1)
noncomputable def v_law_end : List Str := ["_law_cell", "_law_more"]
/- 25: _law_due(_law_row_here, _law_low, _law_high) rank 4; vars 0=_law_row_here, 1=_law_low, 2=_law_high -/
noncomputable def t_law_due_1 : PS := (.seq (.ret (.cstr (Str.ofString "")))
 .skip)
noncomputable def t_law_due_2 : PS := (.seq (.ite (.or (.cons (.cmp .eq (.call 17 (.cons (.var 0) (.cons (.var 1) .nil))) (.cint 0)) (.cons (.cmp .eq (.call 17 (.cons (.var 0) (.cons (.var 2) .nil))) (.cint 0)) (.cons (.cmp .ne (.call 20 (.cons (.var 0) (.cons (.var 1) (.cons (.var 2) .nil)))) (.cint 1)) .nil)))) (.seq (.ret (.cstr (Str.ofString "alone")))
 .skip) .skip)
 t_law_due_1)
noncomputable def t_law_due_3 : PS := (.seq (.ite (.cmp .ge (.bin .mul (.idx (.var 1) (.cint 0)) (.idx (.var 2) (.cint 1))) (.bin .mul (.idx (.var 2) (.cint 0)) (.idx (.var 1) (.cint 1)))) (.seq (.ret (.cstr (Str.ofString "stretch")))
 .skip) .skip)
 t_law_due_2)
noncomputable def b_law_due : PS := (.seq (.ite (.or (.cons (.cmp .lt (.bi .len (.cons (.var 0) .nil)) (.cint 2)) (.cons (.cmp .eq (.idx (.var 0) (.neg (.cint 1))) (.cint 0)) .nil))) (.seq (.ret (.cstr (Str.ofString "row")))
 .skip) .skip)
 t_law_due_3)
noncomputable def v_law_due : List Str := ["_law_row_here", "_law_low", "_law_high"]
/- 26: _law_word(_law_e) rank 1; vars 0=_law_e, 1=_law_words -/
noncomputable def b_law_word : PS := .opaq
noncomputable def v_law_word : List Str := ["_law_e", "_law_words"]
/- 27: _law_told(_law_row_here, _law_low, _law_high) rank 6; vars 0=_law_row_here, 1=_law_low, 2=_law_high, 3=_law_found, 4=_law_e -/
noncomputable def b_law_told : PS := .opaq
noncomputable def v_law_told : List Str := ["_law_row_here", "_law_low", "_law_high", "_law_found", "_law_e"]
/- 28: law(_law_script) rank 7; vars 0=_law_script, 1=_law_row_here, 2=_law_low, 3=_law_high, 4=_law_handed, 5=_law_told_here, 6=_law_found -/
noncomputable def t_law_1 : PS := (.seq (.ret (.cmp .eq (.slc (.var 6) (.some (.cint 1)) .no) (.tup (.cons (.call 15 (.cons (.bin .sub (.idx (.var 2) (.cint 0)) (.idx (.var 2) (.cint 1))) (.cons (.idx (.var 2) (.cint 1)) .nil))) (.cons (.call 15 (.cons (.bin .add (.idx (.var 2) (.cint 0)) (.idx (.var 2) (.cint 1))) (.cons (.idx (.var 2) (.cint 1)) .nil))) .nil)))))
 .skip)
noncomputable def t_law_2 : PS := (.seq (.assign 6 (.call 11 (.cons (.var 2) .nil)))
 (.seq (.ite (.or (.cons (.nt (.call 22 (.cons (.var 6) .nil))) (.cons (.cmp .ne (.idx (.var 6) (.cint 0)) (.tup (.cons (.bin .sub (.cint 0) (.idx (.var 2) (.cint 0))) (.cons (.idx (.var 2) (.cint 1)) .nil)))) .nil))) (.seq (.ret (.cbool false))
 .skip) .skip)
 t_law_1))
noncomputable def t_law_3 : PS := (.seq (.ite (.and (.cons (.cmp .eq (.idx (.var 5) (.cint 0)) (.cstr (Str.ofString ""))) (.cons (.cmp .ne (.idx (.var 5) (.cint 1)) (.tup (.cons (.bi .tuple (.cons (.call 16 (.cons (.var 1) .nil)) .nil)) (.cons (.var 2) (.cons (.var 3) .nil))))) .nil))) (.seq (.ret (.cbool false))
 .skip) .skip)
 t_law_2)
noncomputable def t_law_4 : PS := (.seq (.ite (.and (.cons (.cmp .eq (.idx (.var 5) (.cint 0)) (.cstr (Str.ofString ""))) (.cons (.nt (.call 22 (.cons (.idx (.var 5) (.cint 1)) .nil))) .nil))) (.seq (.ret (.cbool false))
 .skip) .skip)
 t_law_3)
noncomputable def t_law_5 : PS := (.seq (.assign 4 (.bi .list (.cons (.var 1) .nil)))
 (.seq (.asst 5 27 (.cons (.var 4) (.cons (.var 2) (.cons (.var 3) .nil))))
 (.seq (.itet (.cmp .ne (.idx (.var 5) (.cint 0)) (.call 25 (.cons (.var 1) (.cons (.var 2) (.cons (.var 3) .nil))))) (.cmp .ne (.var 4) (.var 1)) 27 (.cons (.bi .tuple (.cons (.var 1) .nil)) (.cons (.var 2) (.cons (.var 3) .nil))) 5 (.seq (.ret (.cbool false))
 .skip) .skip)
 t_law_4)))
noncomputable def t_law_6 : PS := (.seq (.assign 2 (.call 24 (.cons (.call 13 (.cons (.var 0) (.cons (.cint 2) .nil))) (.cons (.call 13 (.cons (.var 0) (.cons (.cint 3) .nil))) .nil))))
 (.seq (.assign 3 (.call 24 (.cons (.call 13 (.cons (.var 0) (.cons (.cint 4) .nil))) (.cons (.call 13 (.cons (.var 0) (.cons (.cint 5) .nil))) .nil))))
 (.seq (.ite (.cmp .eq (.bin .mod (.bin .fdiv (.call 13 (.cons (.var 0) (.cons (.cint 1) .nil))) (.cint 4)) (.cint 2)) (.cint 1)) (.seq (.assign 3 (.call 15 (.cons (.bin .add (.bin .mul (.idx (.var 2) (.cint 0)) (.idx (.var 3) (.cint 1))) (.idx (.var 2) (.cint 1))) (.cons (.bin .mul (.idx (.var 2) (.cint 1)) (.idx (.var 3) (.cint 1))) .nil))))
 .skip) .skip)
 t_law_5)))
noncomputable def b_law : PS := (.seq (.assign 1 (.call 23 (.cons (.var 0) (.cons (.cint 8) (.cons (.bin .mod (.call 13 (.cons (.var 0) (.cons (.cint 0) .nil))) (.cint 7)) .nil)))))
 (.seq (.ite (.and (.cons (.cmp .eq (.bin .mod (.bin .fdiv (.call 13 (.cons (.var 0) (.cons (.cint 0) .nil))) (.cint 7)) (.cint 2)) (.cint 1)) (.cons (.cmp .ne (.var 1) (.lst .nil)) .nil))) (.seq (.assign 1 (.call 18 (.cons (.var 1) (.cons (.lst (.cons (.bin .sub (.bin .mod (.call 13 (.cons (.var 0) (.cons (.cint 6) .nil))) (.cint 41)) (.cint 20)) (.cons (.bin .add (.cint 1) (.bin .mod (.call 13 (.cons (.var 0) (.cons (.cint 7) .nil))) (.cint 9))) .nil))) .nil))))
 .skip) .skip)
 t_law_6))
noncomputable def v_law : List Str := ["_law_script", "_law_row_here", "_law_low", "_law_high", "_law_handed", "_law_told_here", "_law_found"]
noncomputable def fnNames : List Str := ["divisor", "part", "below", "part_sum", "sign_at", "reduced", "multiplied", "seen", "turns", "is_alone", "peg", "of_part", "_law_whole", "_law_cell_at", "_law_divisor", "_law_part", "_law_smallest", "_law_value", "_law_by", "_law_seen", "_law_turns", "_law_is_part", "_law_is_peg", "_law_row", "_law_end", "_law_due", "_law_word", "_law_told", "law"]
noncomputable def clsNames : List Str := ["PegError", "NoPart", "NoRow", "NoStretch", "NotAlone", "NoQuotient", "ValueError"]
noncomputable def fnTab : List Fn := [⟨2, 3, b_divisor⟩, ⟨2, 3, b_part⟩, ⟨2, 2, b_below⟩, ⟨2, 2, b_part_sum⟩, ⟨2, 5, b_sign_at⟩, ⟨1, 3, b_reduced⟩, ⟨3, 5, b_multiplied⟩, ⟨3, 9, b_seen⟩, ⟨3, 6, b_turns⟩, ⟨3, 3, b_is_alone⟩, ⟨3, 3, b_peg⟩, ⟨1, 1, b_of_part⟩, ⟨1, 1, b_law_whole⟩, ⟨2, 2, b_law_cell_at⟩, ⟨2, 3, b_law_divisor⟩, ⟨2, 3, b_law_part⟩, ⟨1, 3, b_law_smallest⟩, ⟨2, 5, b_law_value⟩, ⟨2, 5, b_law_by⟩, ⟨3, 7, b_law_seen⟩, ⟨3, 6, b_law_turns⟩, ⟨1, 1, b_law_is_part⟩, ⟨1, 4, b_law_is_peg⟩, ⟨3, 5, b_law_row⟩, ⟨2, 2, b_law_end⟩, ⟨3, 3, b_law_due⟩, ⟨1, 2, b_law_word⟩, ⟨3, 5, b_law_told⟩, ⟨1, 7, b_law⟩]
noncomputable def varTab : List (List Str) := [v_divisor, v_part, v_below, v_part_sum, v_sign_at, v_reduced, v_multiplied, v_seen, v_turns, v_is_alone, v_peg, v_of_part, v_law_whole, v_law_cell_at, v_law_divisor, v_law_part, v_law_smallest, v_law_value, v_law_by, v_law_seen, v_law_turns, v_law_is_part, v_law_is_peg, v_law_row, v_law_end, v_law_due, v_law_word, v_law_told, v_law]
end L05
end Mine

set_option autoImplicit false
set_option linter.unusedVariables false
set_option linter.unusedSimpArgs false
set_option maxRecDepth 100000
namespace Mine
open PySem
theorem datOf_tup {H : Hp} {n : Nat} {xs : List V} {ds : List PyData} (h : xs.mapM (datOf H n) = some ds) : datOf H (n + 1) (.tup xs) = some (.tuple ds) := by
  simp only [datOf, h]; rfl
theorem dat_str {H : Hp} {n : Nat} {s : Str} (h : PyData.strOk s = true) : datOf H n (.str s) = some (.str s) := by
  cases n <;> exact if_pos h
theorem dat_none {H : Hp} {n : Nat} : datOf H n .none = some .none := by cases n <;> rfl
theorem eqv_str {s : Str} : PyData.eqv (.str s) (.str s) = true := by rw [PyData.eqv]; simp
theorem mapM_ints {H : Hp} {n : Nat} : ∀ cs : List Int, (cs.map V.int).mapM (datOf H n) = some (cs.map PyData.int)
  | [] => rfl
  | c :: cs => by
    have h1 : datOf H n (.int c) = some (.int c) := by cases n <;> rfl
    simp [List.mapM_cons, h1, mapM_ints cs]
theorem eqv_ints {xs : List Int} : PyData.eqvAll (xs.map .int) (xs.map .int) = true := by rw [eqvAll_ints, decide_eq_true rfl]
namespace L05
noncomputable def nosub : Nat → Nat → Bool := fun _ _ => false
noncomputable def wordOf : Nat → Str
  | 2 => Str.ofString "row"
  | 3 => Str.ofString "stretch"
  | 4 => Str.ofString "alone"
  | _ => Str.ofString ""
noncomputable def stat (row : List Int) (p1 q1 p2 q2 : Int) : Nat := if row.length < 2 ∨ row.getLast? = some 0 then 2 else if p2 * q1 ≤ p1 * q2 then 3 else if hval p1 q1 row = 0 ∨ hval p2 q2 row = 0 ∨ tv 0 (hs (p1 * q2) (p2 * q1) (q1 * q2) row) ≠ 1 then 4 else 0
theorem stat_or {row : List Int} {p1 q1 p2 q2 : Int} : stat row p1 q1 p2 q2 = 0 ∨ stat row p1 q1 p2 q2 = 2 ∨ stat row p1 q1 p2 q2 = 3 ∨ stat row p1 q1 p2 q2 = 4 := by
  unfold stat
  by_cases h1 : row.length < 2 ∨ row.getLast? = some 0
  · rw [if_pos h1]; exact .inr (.inl rfl)
  · rw [if_neg h1]
    by_cases h2 : p2 * q1 ≤ p1 * q2
    · rw [if_pos h2]; exact .inr (.inr (.inl rfl))
    · rw [if_neg h2]
      by_cases h3 : hval p1 q1 row = 0 ∨ hval p2 q2 row = 0 ∨ tv 0 (hs (p1 * q2) (p2 * q1) (q1 * q2) row) ≠ 1
      · rw [if_pos h3]; exact .inr (.inr (.inr rfl))
      · rw [if_neg h3]; exact .inl rfl
/-- the rows and parts that the law builds -/
structure Ok (row : List Int) (p1 q1 p2 q2 : Int) : Prop where
  len : row.length ≤ 8
  sm : AllSm 200 row
  low : Low 200 p1 q1
  high : Low 200 p2 q2
section
variable {n : Nat} {H : Hp} {Q : V → Hp → Prop} {X : Nat → Hp → Prop} {row : List Int} {p1 q1 p2 q2 : Int}
theorem Ok.m12 (o : Ok row p1 q1 p2 q2) : IntMulOk p1 q2 := IntMulOk.sm o.low.top o.high.bot (by decide) (by decide)
theorem Ok.m21 (o : Ok row p1 q1 p2 q2) : IntMulOk p2 q1 := IntMulOk.sm o.high.top o.low.bot (by decide) (by decide)
theorem Ok.mqq (o : Ok row p1 q1 p2 q2) : IntMulOk q1 q2 := IntMulOk.sm o.low.bot o.high.bot (by decide) (by decide)
theorem Ok.hB (o : Ok row p1 q1 p2 q2) : 200 + (200 + 200) + 2 + row.length * ((200 + 200) + 2) ≤ 1000000 := by have := Nat.mul_le_mul_right 402 o.len; omega
theorem Ok.hBv (o : Ok row p1 q1 p2 q2) : 200 + 1 + (row.length + 1) * (200 + 2) ≤ 1000000 := by have := Nat.mul_le_mul_right 202 (Nat.succ_le_succ o.len); omega
theorem Ok.l9 (o : Ok row p1 q1 p2 q2) : row.length ≤ 900 := Nat.le_trans o.len (by decide)
theorem s_turns5 (o : Ok row p1 q1 p2 q2) {v : V} (hv : items H v = some (row.map .int)) (h0 : row ≠ []) (hQ : ∀ H', H <+: H' → Q (.int (tv 0 (hs (p1 * q2) (p2 * q1) (q1 * q2) row))) H') : callN nosub fnTab (n + 3) 8 [v, .tup [.int p1, .int q1], .tup [.int p2, .int q2]] H Q X :=
  s_turns rfl rfl rfl hv h0 o.l9 o.sm (o.low.top.mul o.high.bot) (o.high.top.mul o.low.bot) (o.low.bot.mul o.high.bot) o.m12 o.m21 o.mqq o.hB hQ
theorem s_lturns5 (o : Ok row p1 q1 p2 q2) {m : Nat} (hm : H[m]? = some (row.map .int)) (hQ : ∀ H', H <+: H' → Q (.int (tv 0 (hs (p1 * q2) (p2 * q1) (q1 * q2) row))) H') : callN nosub fnTab (n + 3) 20 [.lst m, .tup [.int p1, .int q1], .tup [.int p2, .int q2]] H Q X :=
  s_lturns rfl rfl rfl hm o.l9 o.sm (o.low.top.mul o.high.bot) (o.high.top.mul o.low.bot) (o.low.bot.mul o.high.bot) o.m12 o.m21 o.mqq o.hB hQ
theorem s_alone (o : Ok row p1 q1 p2 q2) {v : V} (hv : items H v = some (row.map .int)) (h0 : row ≠ [])
    (hQ : ∀ H', H <+: H' → Q (.bool (decide (¬ (hval p1 q1 row = 0 ∨ hval p2 q2 row = 0 ∨ tv 0 (hs (p1 * q2) (p2 * q1) (q1 * q2) row) ≠ 1)))) H') : callN nosub fnTab (n + 4) 9 [v, .tup [.int p1, .int q1], .tup [.int p2, .int q2]] H Q X := by
  refine callN_mk rfl rfl ?_
  dsimp only [b_is_alone, qS1, qS2, qS3, qS4, qS5, qS6, qS7, qS8, qS9, qS10, qS11, qS12, qS13, qS14, qS15, qS16, qS17, qS18, qE1, qE2, qE3, qE4, qE5, qE6, qE7, qE8, qE9, qE10, qE11, qE12, qE13, qE14, qE15, qE16, qE17, qE18, qE19, qE20, qE21, qE22, qEs1, qEs2, wpAll, qO1, qO2, qI1, qI2, qI3, w_add, w_addl, w_sub, w_mul, w_mull, w_fdiv, w_mod, w_pow, w_lt, w_le, w_gt, w_ge, w_eq, w_ne, w_eqt, w_eql, w_net, w_nel, w_isn, w_ist, w_isi, w_isl, w_abs, w_lent, w_lenl, w_intb, w_list, w_tuple, w_min, w_idxt0, w_idxt1, w_idxu0, w_idxu1, w_idxu2, w_idxl, w_slcl, w_slct, w_tb, w_ti, w_tn, w_tt, w_tl, w_itt, w_itl, w_bindT1, w_bindT2, w_srcl, w_srct, w_cut2, w_cut1, w_cut1', w_cut0, w_ty1, w_ty2, w_ty3, w_ty4, w_ty5, w_ty6, w_ty7, w_ty8, w_ty9, w_ty10, w_ty11, w_ty12, w_ty13, w_ty14, w_ty15, w_ty16, w_ty17, w_ty18, w_ty19, w_ty20, w_ty21, w_mapc, w_mapn, w_appc, w_appn, w_repc, w_repn, w_start, w_lenc, w_ifT, w_ifF, w_ifFF, w_ifTF, w_nT, w_nF, w_anyT, w_anyF, w_d22, ifSome_some, ifLst_lst, ifTup_tup, ifInt_int, lget, lset, lsets, Nat.reduceSub, Nat.reduceAdd, List.length_nil, ↓reduceIte]
  refine s_sign rfl hv o.sm o.low.top o.low.bot o.hBv ?_
  dsimp only [qS1, qS2, qS3, qS4, qS5, qS6, qS7, qS8, qS9, qS10, qS11, qS12, qS13, qS14, qS15, qS16, qS17, qS18, qE1, qE2, qE3, qE4, qE5, qE6, qE7, qE8, qE9, qE10, qE11, qE12, qE13, qE14, qE15, qE16, qE17, qE18, qE19, qE20, qE21, qE22, qEs1, qEs2, wpAll, qO1, qO2, qI1, qI2, qI3, w_add, w_addl, w_sub, w_mul, w_mull, w_fdiv, w_mod, w_pow, w_lt, w_le, w_gt, w_ge, w_eq, w_ne, w_eqt, w_eql, w_net, w_nel, w_isn, w_ist, w_isi, w_isl, w_abs, w_lent, w_lenl, w_intb, w_list, w_tuple, w_min, w_idxt0, w_idxt1, w_idxu0, w_idxu1, w_idxu2, w_idxl, w_slcl, w_slct, w_tb, w_ti, w_tn, w_tt, w_tl, w_itt, w_itl, w_bindT1, w_bindT2, w_srcl, w_srct, w_cut2, w_cut1, w_cut1', w_cut0, w_ty1, w_ty2, w_ty3, w_ty4, w_ty5, w_ty6, w_ty7, w_ty8, w_ty9, w_ty10, w_ty11, w_ty12, w_ty13, w_ty14, w_ty15, w_ty16, w_ty17, w_ty18, w_ty19, w_ty20, w_ty21, w_mapc, w_mapn, w_appc, w_appn, w_repc, w_repn, w_start, w_lenc, w_ifT, w_ifF, w_ifFF, w_ifTF, w_nT, w_nF, w_anyT, w_anyF, w_d22, ifSome_some, ifLst_lst, ifTup_tup, ifInt_int, lget, lset, lsets, Nat.reduceSub, Nat.reduceAdd, List.length_nil, ↓reduceIte]
  by_cases h1 : hval p1 q1 row = 0
  · rw [decide_eq_true (sgn_zero.mpr h1)]
    rw [decide_eq_false (show ¬ ¬ _ from fun h => h (.inl h1))] at hQ
    exact hQ _ (List.prefix_refl _)
  · rw [decide_eq_false (fun h => h1 (sgn_zero.mp h))]
    dsimp only [qS1, qS2, qS3, qS4, qS5, qS6, qS7, qS8, qS9, qS10, qS11, qS12, qS13, qS14, qS15, qS16, qS17, qS18, qE1, qE2, qE3, qE4, qE5, qE6, qE7, qE8, qE9, qE10, qE11, qE12, qE13, qE14, qE15, qE16, qE17, qE18, qE19, qE20, qE21, qE22, qEs1, qEs2, wpAll, qO1, qO2, qI1, qI2, qI3, w_add, w_addl, w_sub, w_mul, w_mull, w_fdiv, w_mod, w_pow, w_lt, w_le, w_gt, w_ge, w_eq, w_ne, w_eqt, w_eql, w_net, w_nel, w_isn, w_ist, w_isi, w_isl, w_abs, w_lent, w_lenl, w_intb, w_list, w_tuple, w_min, w_idxt0, w_idxt1, w_idxu0, w_idxu1, w_idxu2, w_idxl, w_slcl, w_slct, w_tb, w_ti, w_tn, w_tt, w_tl, w_itt, w_itl, w_bindT1, w_bindT2, w_srcl, w_srct, w_cut2, w_cut1, w_cut1', w_cut0, w_ty1, w_ty2, w_ty3, w_ty4, w_ty5, w_ty6, w_ty7, w_ty8, w_ty9, w_ty10, w_ty11, w_ty12, w_ty13, w_ty14, w_ty15, w_ty16, w_ty17, w_ty18, w_ty19, w_ty20, w_ty21, w_mapc, w_mapn, w_appc, w_appn, w_repc, w_repn, w_start, w_lenc, w_ifT, w_ifF, w_ifFF, w_ifTF, w_nT, w_nF, w_anyT, w_anyF, w_d22, ifSome_some, ifLst_lst, ifTup_tup, ifInt_int, lget, lset, lsets, Nat.reduceSub, Nat.reduceAdd, List.length_nil, ↓reduceIte]
    refine s_sign rfl hv o.sm o.high.top o.high.bot o.hBv ?_
    dsimp only [qS1, qS2, qS3, qS4, qS5, qS6, qS7, qS8, qS9, qS10, qS11, qS12, qS13, qS14, qS15, qS16, qS17, qS18, qE1, qE2, qE3, qE4, qE5, qE6, qE7, qE8, qE9, qE10, qE11, qE12, qE13, qE14, qE15, qE16, qE17, qE18, qE19, qE20, qE21, qE22, qEs1, qEs2, wpAll, qO1, qO2, qI1, qI2, qI3, w_add, w_addl, w_sub, w_mul, w_mull, w_fdiv, w_mod, w_pow, w_lt, w_le, w_gt, w_ge, w_eq, w_ne, w_eqt, w_eql, w_net, w_nel, w_isn, w_ist, w_isi, w_isl, w_abs, w_lent, w_lenl, w_intb, w_list, w_tuple, w_min, w_idxt0, w_idxt1, w_idxu0, w_idxu1, w_idxu2, w_idxl, w_slcl, w_slct, w_tb, w_ti, w_tn, w_tt, w_tl, w_itt, w_itl, w_bindT1, w_bindT2, w_srcl, w_srct, w_cut2, w_cut1, w_cut1', w_cut0, w_ty1, w_ty2, w_ty3, w_ty4, w_ty5, w_ty6, w_ty7, w_ty8, w_ty9, w_ty10, w_ty11, w_ty12, w_ty13, w_ty14, w_ty15, w_ty16, w_ty17, w_ty18, w_ty19, w_ty20, w_ty21, w_mapc, w_mapn, w_appc, w_appn, w_repc, w_repn, w_start, w_lenc, w_ifT, w_ifF, w_ifFF, w_ifTF, w_nT, w_nF, w_anyT, w_anyF, w_d22, ifSome_some, ifLst_lst, ifTup_tup, ifInt_int, lget, lset, lsets, Nat.reduceSub, Nat.reduceAdd, List.length_nil, ↓reduceIte]
    by_cases h2 : hval p2 q2 row = 0
    · rw [decide_eq_true (sgn_zero.mpr h2)]
      rw [decide_eq_false (show ¬ ¬ _ from fun h => h (.inr (.inl h2)))] at hQ
      exact hQ _ (List.prefix_refl _)
    · rw [decide_eq_false (fun h => h2 (sgn_zero.mp h))]
      dsimp only [qS1, qS2, qS3, qS4, qS5, qS6, qS7, qS8, qS9, qS10, qS11, qS12, qS13, qS14, qS15, qS16, qS17, qS18, qE1, qE2, qE3, qE4, qE5, qE6, qE7, qE8, qE9, qE10, qE11, qE12, qE13, qE14, qE15, qE16, qE17, qE18, qE19, qE20, qE21, qE22, qEs1, qEs2, wpAll, qO1, qO2, qI1, qI2, qI3, w_add, w_addl, w_sub, w_mul, w_mull, w_fdiv, w_mod, w_pow, w_lt, w_le, w_gt, w_ge, w_eq, w_ne, w_eqt, w_eql, w_net, w_nel, w_isn, w_ist, w_isi, w_isl, w_abs, w_lent, w_lenl, w_intb, w_list, w_tuple, w_min, w_idxt0, w_idxt1, w_idxu0, w_idxu1, w_idxu2, w_idxl, w_slcl, w_slct, w_tb, w_ti, w_tn, w_tt, w_tl, w_itt, w_itl, w_bindT1, w_bindT2, w_srcl, w_srct, w_cut2, w_cut1, w_cut1', w_cut0, w_ty1, w_ty2, w_ty3, w_ty4, w_ty5, w_ty6, w_ty7, w_ty8, w_ty9, w_ty10, w_ty11, w_ty12, w_ty13, w_ty14, w_ty15, w_ty16, w_ty17, w_ty18, w_ty19, w_ty20, w_ty21, w_mapc, w_mapn, w_appc, w_appn, w_repc, w_repn, w_start, w_lenc, w_ifT, w_ifF, w_ifFF, w_ifTF, w_nT, w_nF, w_anyT, w_anyF, w_d22, ifSome_some, ifLst_lst, ifTup_tup, ifInt_int, lget, lset, lsets, Nat.reduceSub, Nat.reduceAdd, List.length_nil, ↓reduceIte]
      refine s_turns5 o hv h0 fun H' hp => ?_
      dsimp only [qS1, qS2, qS3, qS4, qS5, qS6, qS7, qS8, qS9, qS10, qS11, qS12, qS13, qS14, qS15, qS16, qS17, qS18, qE1, qE2, qE3, qE4, qE5, qE6, qE7, qE8, qE9, qE10, qE11, qE12, qE13, qE14, qE15, qE16, qE17, qE18, qE19, qE20, qE21, qE22, qEs1, qEs2, wpAll, qO1, qO2, qI1, qI2, qI3, w_add, w_addl, w_sub, w_mul, w_mull, w_fdiv, w_mod, w_pow, w_lt, w_le, w_gt, w_ge, w_eq, w_ne, w_eqt, w_eql, w_net, w_nel, w_isn, w_ist, w_isi, w_isl, w_abs, w_lent, w_lenl, w_intb, w_list, w_tuple, w_min, w_idxt0, w_idxt1, w_idxu0, w_idxu1, w_idxu2, w_idxl, w_slcl, w_slct, w_tb, w_ti, w_tn, w_tt, w_tl, w_itt, w_itl, w_bindT1, w_bindT2, w_srcl, w_srct, w_cut2, w_cut1, w_cut1', w_cut0, w_ty1, w_ty2, w_ty3, w_ty4, w_ty5, w_ty6, w_ty7, w_ty8, w_ty9, w_ty10, w_ty11, w_ty12, w_ty13, w_ty14, w_ty15, w_ty16, w_ty17, w_ty18, w_ty19, w_ty20, w_ty21, w_mapc, w_mapn, w_appc, w_appn, w_repc, w_repn, w_start, w_lenc, w_ifT, w_ifF, w_ifFF, w_ifTF, w_nT, w_nF, w_anyT, w_anyF, w_d22, ifSome_some, ifLst_lst, ifTup_tup, ifInt_int, lget, lset, lsets, Nat.reduceSub, Nat.reduceAdd, List.length_nil, ↓reduceIte]
      by_cases h3 : tv 0 (hs (p1 * q2) (p2 * q1) (q1 * q2) row) = 1
      · rw [decide_eq_true h3]
        rw [decide_eq_true (show ¬ _ from fun h => by rcases h with h | h | h; exact h1 h; exact h2 h; exact h h3)] at hQ
        exact hQ _ hp
      · rw [decide_eq_false h3]
        rw [decide_eq_false (show ¬ ¬ _ from fun h => h (.inr (.inr h3)))] at hQ
        exact hQ _ hp
noncomputable def ngP : PE := .neg (.var 1)
/-- peg's body -/
theorem s_pegB (o : Ok row p1 q1 p2 q2) {v : V} {W : Nat → Prop} {N : Loc → Hp → Prop} {R : V → Hp → Prop} {Y : Nat → Hp → Prop} (hv : items H v = some (row.map .int))
    (hY : stat row p1 q1 p2 q2 ≠ 0 → ∀ H', H <+: H' → Y (stat row p1 q1 p2 q2) H')
    (hR : stat row p1 q1 p2 q2 = 0 → ∀ l, row.getLast? = some l → l ≠ 0 → ∀ H', H <+: H' → R (.tup [.tup ((redI row l).map .int), .tup [.int p1, .int q1], .tup [.int p2, .int q2]]) H') :
    wpS nosub (callN nosub fnTab (n + 4)) W b_peg [some v, some (.tup [.int p1, .int q1]), some (.tup [.int p2, .int q2])] H N R Y := by
  dsimp only [b_peg, qS1, qS2, qS3, qS4, qS5, qS6, qS7, qS8, qS9, qS10, qS11, qS12, qS13, qS14, qS15, qS16, qS17, qS18, qE1, qE2, qE3, qE4, qE5, qE6, qE7, qE8, qE9, qE10, qE11, qE12, qE13, qE14, qE15, qE16, qE17, qE18, qE19, qE20, qE21, qE22, qEs1, qEs2, wpAll, qO1, qO2, qI1, qI2, qI3, w_add, w_addl, w_sub, w_mul, w_mull, w_fdiv, w_mod, w_pow, w_lt, w_le, w_gt, w_ge, w_eq, w_ne, w_eqt, w_eql, w_net, w_nel, w_isn, w_ist, w_isi, w_isl, w_abs, w_lent, w_lenl, w_intb, w_list, w_tuple, w_min, w_idxt0, w_idxt1, w_idxu0, w_idxu1, w_idxu2, w_idxl, w_slcl, w_slct, w_tb, w_ti, w_tn, w_tt, w_tl, w_itt, w_itl, w_bindT1, w_bindT2, w_srcl, w_srct, w_cut2, w_cut1, w_cut1', w_cut0, w_ty1, w_ty2, w_ty3, w_ty4, w_ty5, w_ty6, w_ty7, w_ty8, w_ty9, w_ty10, w_ty11, w_ty12, w_ty13, w_ty14, w_ty15, w_ty16, w_ty17, w_ty18, w_ty19, w_ty20, w_ty21, w_mapc, w_mapn, w_appc, w_appn, w_repc, w_repn, w_start, w_lenc, w_ifT, w_ifF, w_ifFF, w_ifTF, w_nT, w_nF, w_anyT, w_anyF, w_d22, ifSome_some, ifLst_lst, ifTup_tup, ifInt_int, lget, lset, lsets, Nat.reduceSub, Nat.reduceAdd, List.length_nil, ↓reduceIte, w_leng, w_idxg]
  refine ifSome.mk hv ?_
  rw [List.length_map]
  by_cases h1 : row.length < 2
  · rw [decide_eq_true (show ((row.length : Nat) : Int) < 2 by omega)]
    have e : stat row p1 q1 p2 q2 = 2 := if_pos (.inl h1)
    rw [e] at hY
    exact hY (by decide) _ (List.prefix_refl _)
  · rw [decide_eq_false (show ¬ ((row.length : Nat) : Int) < 2 by omega)]
    dsimp only [qS1, qS2, qS3, qS4, qS5, qS6, qS7, qS8, qS9, qS10, qS11, qS12, qS13, qS14, qS15, qS16, qS17, qS18, qE1, qE2, qE3, qE4, qE5, qE6, qE7, qE8, qE9, qE10, qE11, qE12, qE13, qE14, qE15, qE16, qE17, qE18, qE19, qE20, qE21, qE22, qEs1, qEs2, wpAll, qO1, qO2, qI1, qI2, qI3, w_add, w_addl, w_sub, w_mul, w_mull, w_fdiv, w_mod, w_pow, w_lt, w_le, w_gt, w_ge, w_eq, w_ne, w_eqt, w_eql, w_net, w_nel, w_isn, w_ist, w_isi, w_isl, w_abs, w_lent, w_lenl, w_intb, w_list, w_tuple, w_min, w_idxt0, w_idxt1, w_idxu0, w_idxu1, w_idxu2, w_idxl, w_slcl, w_slct, w_tb, w_ti, w_tn, w_tt, w_tl, w_itt, w_itl, w_bindT1, w_bindT2, w_srcl, w_srct, w_cut2, w_cut1, w_cut1', w_cut0, w_ty1, w_ty2, w_ty3, w_ty4, w_ty5, w_ty6, w_ty7, w_ty8, w_ty9, w_ty10, w_ty11, w_ty12, w_ty13, w_ty14, w_ty15, w_ty16, w_ty17, w_ty18, w_ty19, w_ty20, w_ty21, w_mapc, w_mapn, w_appc, w_appn, w_repc, w_repn, w_start, w_lenc, w_ifT, w_ifF, w_ifFF, w_ifTF, w_nT, w_nF, w_anyT, w_anyF, w_d22, ifSome_some, ifLst_lst, ifTup_tup, ifInt_int, lget, lset, lsets, Nat.reduceSub, Nat.reduceAdd, List.length_nil, ↓reduceIte]
    have hne : row ≠ [] := fun h => h1 (by rw [h]; decide)
    have hg : row.getLast? = some (row.getLast hne) := List.getLast?_eq_some_getLast hne
    refine ifSome.mk hv (ifSome.mk (place_last (by rw [List.length_map]; omega)) (ifSome.mk (v := .int (row.getLast hne)) ?_ ?_))
    · rw [List.length_map, List.getElem?_map, ← List.getLast?_eq_getElem?, hg]; rfl
    dsimp only [qS1, qS2, qS3, qS4, qS5, qS6, qS7, qS8, qS9, qS10, qS11, qS12, qS13, qS14, qS15, qS16, qS17, qS18, qE1, qE2, qE3, qE4, qE5, qE6, qE7, qE8, qE9, qE10, qE11, qE12, qE13, qE14, qE15, qE16, qE17, qE18, qE19, qE20, qE21, qE22, qEs1, qEs2, wpAll, qO1, qO2, qI1, qI2, qI3, w_add, w_addl, w_sub, w_mul, w_mull, w_fdiv, w_mod, w_pow, w_lt, w_le, w_gt, w_ge, w_eq, w_ne, w_eqt, w_eql, w_net, w_nel, w_isn, w_ist, w_isi, w_isl, w_abs, w_lent, w_lenl, w_intb, w_list, w_tuple, w_min, w_idxt0, w_idxt1, w_idxu0, w_idxu1, w_idxu2, w_idxl, w_slcl, w_slct, w_tb, w_ti, w_tn, w_tt, w_tl, w_itt, w_itl, w_bindT1, w_bindT2, w_srcl, w_srct, w_cut2, w_cut1, w_cut1', w_cut0, w_ty1, w_ty2, w_ty3, w_ty4, w_ty5, w_ty6, w_ty7, w_ty8, w_ty9, w_ty10, w_ty11, w_ty12, w_ty13, w_ty14, w_ty15, w_ty16, w_ty17, w_ty18, w_ty19, w_ty20, w_ty21, w_mapc, w_mapn, w_appc, w_appn, w_repc, w_repn, w_start, w_lenc, w_ifT, w_ifF, w_ifFF, w_ifTF, w_nT, w_nF, w_anyT, w_anyF, w_d22, ifSome_some, ifLst_lst, ifTup_tup, ifInt_int, lget, lset, lsets, Nat.reduceSub, Nat.reduceAdd, List.length_nil, ↓reduceIte]
    revert hg
    generalize row.getLast hne = l
    intro hg
    by_cases h2 : l = 0
    · rw [decide_eq_true h2]
      have e : stat row p1 q1 p2 q2 = 2 := if_pos (.inr (by rw [hg, h2]))
      rw [e] at hY
      exact hY (by decide) _ (List.prefix_refl _)
    · rw [decide_eq_false h2]
      dsimp only [t_peg_3, qS1, qS2, qS3, qS4, qS5, qS6, qS7, qS8, qS9, qS10, qS11, qS12, qS13, qS14, qS15, qS16, qS17, qS18, qE1, qE2, qE3, qE4, qE5, qE6, qE7, qE8, qE9, qE10, qE11, qE12, qE13, qE14, qE15, qE16, qE17, qE18, qE19, qE20, qE21, qE22, qEs1, qEs2, wpAll, qO1, qO2, qI1, qI2, qI3, w_add, w_addl, w_sub, w_mul, w_mull, w_fdiv, w_mod, w_pow, w_lt, w_le, w_gt, w_ge, w_eq, w_ne, w_eqt, w_eql, w_net, w_nel, w_isn, w_ist, w_isi, w_isl, w_abs, w_lent, w_lenl, w_intb, w_list, w_tuple, w_min, w_idxt0, w_idxt1, w_idxu0, w_idxu1, w_idxu2, w_idxl, w_slcl, w_slct, w_tb, w_ti, w_tn, w_tt, w_tl, w_itt, w_itl, w_bindT1, w_bindT2, w_srcl, w_srct, w_cut2, w_cut1, w_cut1', w_cut0, w_ty1, w_ty2, w_ty3, w_ty4, w_ty5, w_ty6, w_ty7, w_ty8, w_ty9, w_ty10, w_ty11, w_ty12, w_ty13, w_ty14, w_ty15, w_ty16, w_ty17, w_ty18, w_ty19, w_ty20, w_ty21, w_mapc, w_mapn, w_appc, w_appn, w_repc, w_repn, w_start, w_lenc, w_ifT, w_ifF, w_ifFF, w_ifTF, w_nT, w_nF, w_anyT, w_anyF, w_d22, ifSome_some, ifLst_lst, ifTup_tup, ifInt_int, lget, lset, lsets, Nat.reduceSub, Nat.reduceAdd, List.length_nil, ↓reduceIte]
      have hn1 : ¬ (row.length < 2 ∨ row.getLast? = some 0) := fun h => by
        rcases h with h | h
        · exact h1 h
        · rw [hg] at h; exact h2 (Option.some.inj h)
      refine s_below rfl o.m12 o.m21 ?_
      dsimp only [qS1, qS2, qS3, qS4, qS5, qS6, qS7, qS8, qS9, qS10, qS11, qS12, qS13, qS14, qS15, qS16, qS17, qS18, qE1, qE2, qE3, qE4, qE5, qE6, qE7, qE8, qE9, qE10, qE11, qE12, qE13, qE14, qE15, qE16, qE17, qE18, qE19, qE20, qE21, qE22, qEs1, qEs2, wpAll, qO1, qO2, qI1, qI2, qI3, w_add, w_addl, w_sub, w_mul, w_mull, w_fdiv, w_mod, w_pow, w_lt, w_le, w_gt, w_ge, w_eq, w_ne, w_eqt, w_eql, w_net, w_nel, w_isn, w_ist, w_isi, w_isl, w_abs, w_lent, w_lenl, w_intb, w_list, w_tuple, w_min, w_idxt0, w_idxt1, w_idxu0, w_idxu1, w_idxu2, w_idxl, w_slcl, w_slct, w_tb, w_ti, w_tn, w_tt, w_tl, w_itt, w_itl, w_bindT1, w_bindT2, w_srcl, w_srct, w_cut2, w_cut1, w_cut1', w_cut0, w_ty1, w_ty2, w_ty3, w_ty4, w_ty5, w_ty6, w_ty7, w_ty8, w_ty9, w_ty10, w_ty11, w_ty12, w_ty13, w_ty14, w_ty15, w_ty16, w_ty17, w_ty18, w_ty19, w_ty20, w_ty21, w_mapc, w_mapn, w_appc, w_appn, w_repc, w_repn, w_start, w_lenc, w_ifT, w_ifF, w_ifFF, w_ifTF, w_nT, w_nF, w_anyT, w_anyF, w_d22, ifSome_some, ifLst_lst, ifTup_tup, ifInt_int, lget, lset, lsets, Nat.reduceSub, Nat.reduceAdd, List.length_nil, ↓reduceIte]
      by_cases h3 : p1 * q2 < p2 * q1
      · rw [decide_eq_true h3]
        dsimp only [t_peg_2, qS1, qS2, qS3, qS4, qS5, qS6, qS7, qS8, qS9, qS10, qS11, qS12, qS13, qS14, qS15, qS16, qS17, qS18, qE1, qE2, qE3, qE4, qE5, qE6, qE7, qE8, qE9, qE10, qE11, qE12, qE13, qE14, qE15, qE16, qE17, qE18, qE19, qE20, qE21, qE22, qEs1, qEs2, wpAll, qO1, qO2, qI1, qI2, qI3, w_add, w_addl, w_sub, w_mul, w_mull, w_fdiv, w_mod, w_pow, w_lt, w_le, w_gt, w_ge, w_eq, w_ne, w_eqt, w_eql, w_net, w_nel, w_isn, w_ist, w_isi, w_isl, w_abs, w_lent, w_lenl, w_intb, w_list, w_tuple, w_min, w_idxt0, w_idxt1, w_idxu0, w_idxu1, w_idxu2, w_idxl, w_slcl, w_slct, w_tb, w_ti, w_tn, w_tt, w_tl, w_itt, w_itl, w_bindT1, w_bindT2, w_srcl, w_srct, w_cut2, w_cut1, w_cut1', w_cut0, w_ty1, w_ty2, w_ty3, w_ty4, w_ty5, w_ty6, w_ty7, w_ty8, w_ty9, w_ty10, w_ty11, w_ty12, w_ty13, w_ty14, w_ty15, w_ty16, w_ty17, w_ty18, w_ty19, w_ty20, w_ty21, w_mapc, w_mapn, w_appc, w_appn, w_repc, w_repn, w_start, w_lenc, w_ifT, w_ifF, w_ifFF, w_ifTF, w_nT, w_nF, w_anyT, w_anyF, w_d22, ifSome_some, ifLst_lst, ifTup_tup, ifInt_int, lget, lset, lsets, Nat.reduceSub, Nat.reduceAdd, List.length_nil, ↓reduceIte]
        refine s_alone o hv hne fun H' hp => ?_
        by_cases h4 : hval p1 q1 row = 0 ∨ hval p2 q2 row = 0 ∨ tv 0 (hs (p1 * q2) (p2 * q1) (q1 * q2) row) ≠ 1
        · rw [decide_eq_false (show ¬ ¬ _ from fun h => h h4)]
          have e : stat row p1 q1 p2 q2 = 4 := by unfold stat; rw [if_neg hn1, if_neg (Int.not_le.mpr h3), if_pos h4]
          rw [e] at hY
          exact hY (by decide) _ hp
        · rw [decide_eq_true h4]
          dsimp only [t_peg_1, qS1, qS2, qS3, qS4, qS5, qS6, qS7, qS8, qS9, qS10, qS11, qS12, qS13, qS14, qS15, qS16, qS17, qS18, qE1, qE2, qE3, qE4, qE5, qE6, qE7, qE8, qE9, qE10, qE11, qE12, qE13, qE14, qE15, qE16, qE17, qE18, qE19, qE20, qE21, qE22, qEs1, qEs2, wpAll, qO1, qO2, qI1, qI2, qI3, w_add, w_addl, w_sub, w_mul, w_mull, w_fdiv, w_mod, w_pow, w_lt, w_le, w_gt, w_ge, w_eq, w_ne, w_eqt, w_eql, w_net, w_nel, w_isn, w_ist, w_isi, w_isl, w_abs, w_lent, w_lenl, w_intb, w_list, w_tuple, w_min, w_idxt0, w_idxt1, w_idxu0, w_idxu1, w_idxu2, w_idxl, w_slcl, w_slct, w_tb, w_ti, w_tn, w_tt, w_tl, w_itt, w_itl, w_bindT1, w_bindT2, w_srcl, w_srct, w_cut2, w_cut1, w_cut1', w_cut0, w_ty1, w_ty2, w_ty3, w_ty4, w_ty5, w_ty6, w_ty7, w_ty8, w_ty9, w_ty10, w_ty11, w_ty12, w_ty13, w_ty14, w_ty15, w_ty16, w_ty17, w_ty18, w_ty19, w_ty20, w_ty21, w_mapc, w_mapn, w_appc, w_appn, w_repc, w_repn, w_start, w_lenc, w_ifT, w_ifF, w_ifFF, w_ifTF, w_nT, w_nF, w_anyT, w_anyF, w_d22, ifSome_some, ifLst_lst, ifTup_tup, ifInt_int, lget, lset, lsets, Nat.reduceSub, Nat.reduceAdd, List.length_nil, ↓reduceIte]
          have e : stat row p1 q1 p2 q2 = 0 := by unfold stat; rw [if_neg hn1, if_neg (Int.not_le.mpr h3), if_neg h4]
          refine s_red (n := n + 3) (ng := ngP) (fun g ρ H' Z hg hz => ?_) rfl (fun a b H' Z X' hz => s_pdiv rfl hz) (itemsKeep hp hv) hg h2 ((o.sm l (List.mem_of_getLast? hg)).mono (by decide)) (Nat.le_trans o.len (by decide)) ?_
          · dsimp only [ngP, qE1, qE2, qE3, qE4, qE5, qE6, qE7, qE8, qE9, qE10, qE11, qE12, qE13, qE14, qE15, qE16, qE17, qE18, qE19, qE20, qE21, qE22]
            exact ifSome.mk hg hz
          refine ifSome.mk (getApp _ _ _) ?_
          exact hR e l hg h2 _ (preTrans hp (preApp _ _))
      · rw [decide_eq_false h3]
        have e : stat row p1 q1 p2 q2 = 3 := by unfold stat; rw [if_neg hn1, if_pos (Int.not_lt.mp h3)]
        rw [e] at hY
        exact hY (by decide) _ (List.prefix_refl _)
theorem s_due (o : Ok row p1 q1 p2 q2) {m : Nat} (hm : H[m]? = some (row.map .int)) (hQ : ∀ H', H <+: H' → Q (.str (wordOf (stat row p1 q1 p2 q2))) H') : callN nosub fnTab (n + 4) 25 [.lst m, .tup [.int p1, .int q1], .tup [.int p2, .int q2]] H Q X := by
  refine callN_mk rfl rfl ?_
  dsimp only [b_law_due, qS1, qS2, qS3, qS4, qS5, qS6, qS7, qS8, qS9, qS10, qS11, qS12, qS13, qS14, qS15, qS16, qS17, qS18, qE1, qE2, qE3, qE4, qE5, qE6, qE7, qE8, qE9, qE10, qE11, qE12, qE13, qE14, qE15, qE16, qE17, qE18, qE19, qE20, qE21, qE22, qEs1, qEs2, wpAll, qO1, qO2, qI1, qI2, qI3, w_add, w_addl, w_sub, w_mul, w_mull, w_fdiv, w_mod, w_pow, w_lt, w_le, w_gt, w_ge, w_eq, w_ne, w_eqt, w_eql, w_net, w_nel, w_isn, w_ist, w_isi, w_isl, w_abs, w_lent, w_lenl, w_intb, w_list, w_tuple, w_min, w_idxt0, w_idxt1, w_idxu0, w_idxu1, w_idxu2, w_idxl, w_slcl, w_slct, w_tb, w_ti, w_tn, w_tt, w_tl, w_itt, w_itl, w_bindT1, w_bindT2, w_srcl, w_srct, w_cut2, w_cut1, w_cut1', w_cut0, w_ty1, w_ty2, w_ty3, w_ty4, w_ty5, w_ty6, w_ty7, w_ty8, w_ty9, w_ty10, w_ty11, w_ty12, w_ty13, w_ty14, w_ty15, w_ty16, w_ty17, w_ty18, w_ty19, w_ty20, w_ty21, w_mapc, w_mapn, w_appc, w_appn, w_repc, w_repn, w_start, w_lenc, w_ifT, w_ifF, w_ifFF, w_ifTF, w_nT, w_nF, w_anyT, w_anyF, w_d22, ifSome_some, ifLst_lst, ifTup_tup, ifInt_int, lget, lset, lsets, Nat.reduceSub, Nat.reduceAdd, List.length_nil, ↓reduceIte]
  refine ifSome.mk hm ?_
  rw [List.length_map]
  by_cases h1 : row.length < 2
  · rw [decide_eq_true (show ((row.length : Nat) : Int) < 2 by omega)]
    have e : stat row p1 q1 p2 q2 = 2 := if_pos (.inl h1)
    rw [e] at hQ
    exact hQ _ (List.prefix_refl _)
  · rw [decide_eq_false (show ¬ ((row.length : Nat) : Int) < 2 by omega)]
    dsimp only [qS1, qS2, qS3, qS4, qS5, qS6, qS7, qS8, qS9, qS10, qS11, qS12, qS13, qS14, qS15, qS16, qS17, qS18, qE1, qE2, qE3, qE4, qE5, qE6, qE7, qE8, qE9, qE10, qE11, qE12, qE13, qE14, qE15, qE16, qE17, qE18, qE19, qE20, qE21, qE22, qEs1, qEs2, wpAll, qO1, qO2, qI1, qI2, qI3, w_add, w_addl, w_sub, w_mul, w_mull, w_fdiv, w_mod, w_pow, w_lt, w_le, w_gt, w_ge, w_eq, w_ne, w_eqt, w_eql, w_net, w_nel, w_isn, w_ist, w_isi, w_isl, w_abs, w_lent, w_lenl, w_intb, w_list, w_tuple, w_min, w_idxt0, w_idxt1, w_idxu0, w_idxu1, w_idxu2, w_idxl, w_slcl, w_slct, w_tb, w_ti, w_tn, w_tt, w_tl, w_itt, w_itl, w_bindT1, w_bindT2, w_srcl, w_srct, w_cut2, w_cut1, w_cut1', w_cut0, w_ty1, w_ty2, w_ty3, w_ty4, w_ty5, w_ty6, w_ty7, w_ty8, w_ty9, w_ty10, w_ty11, w_ty12, w_ty13, w_ty14, w_ty15, w_ty16, w_ty17, w_ty18, w_ty19, w_ty20, w_ty21, w_mapc, w_mapn, w_appc, w_appn, w_repc, w_repn, w_start, w_lenc, w_ifT, w_ifF, w_ifFF, w_ifTF, w_nT, w_nF, w_anyT, w_anyF, w_d22, ifSome_some, ifLst_lst, ifTup_tup, ifInt_int, lget, lset, lsets, Nat.reduceSub, Nat.reduceAdd, List.length_nil, ↓reduceIte]
    have hne : row ≠ [] := fun h => h1 (by rw [h]; decide)
    have hg : row.getLast? = some (row.getLast hne) := List.getLast?_eq_some_getLast hne
    refine ifSome.mk hm (ifSome.mk (place_last (by rw [List.length_map]; omega)) (ifSome.mk (v := .int (row.getLast hne)) ?_ ?_))
    · rw [List.length_map, List.getElem?_map, ← List.getLast?_eq_getElem?, hg]; rfl
    dsimp only [qS1, qS2, qS3, qS4, qS5, qS6, qS7, qS8, qS9, qS10, qS11, qS12, qS13, qS14, qS15, qS16, qS17, qS18, qE1, qE2, qE3, qE4, qE5, qE6, qE7, qE8, qE9, qE10, qE11, qE12, qE13, qE14, qE15, qE16, qE17, qE18, qE19, qE20, qE21, qE22, qEs1, qEs2, wpAll, qO1, qO2, qI1, qI2, qI3, w_add, w_addl, w_sub, w_mul, w_mull, w_fdiv, w_mod, w_pow, w_lt, w_le, w_gt, w_ge, w_eq, w_ne, w_eqt, w_eql, w_net, w_nel, w_isn, w_ist, w_isi, w_isl, w_abs, w_lent, w_lenl, w_intb, w_list, w_tuple, w_min, w_idxt0, w_idxt1, w_idxu0, w_idxu1, w_idxu2, w_idxl, w_slcl, w_slct, w_tb, w_ti, w_tn, w_tt, w_tl, w_itt, w_itl, w_bindT1, w_bindT2, w_srcl, w_srct, w_cut2, w_cut1, w_cut1', w_cut0, w_ty1, w_ty2, w_ty3, w_ty4, w_ty5, w_ty6, w_ty7, w_ty8, w_ty9, w_ty10, w_ty11, w_ty12, w_ty13, w_ty14, w_ty15, w_ty16, w_ty17, w_ty18, w_ty19, w_ty20, w_ty21, w_mapc, w_mapn, w_appc, w_appn, w_repc, w_repn, w_start, w_lenc, w_ifT, w_ifF, w_ifFF, w_ifTF, w_nT, w_nF, w_anyT, w_anyF, w_d22, ifSome_some, ifLst_lst, ifTup_tup, ifInt_int, lget, lset, lsets, Nat.reduceSub, Nat.reduceAdd, List.length_nil, ↓reduceIte]
    revert hg
    generalize row.getLast hne = l
    intro hg
    by_cases h2 : l = 0
    · rw [decide_eq_true h2]
      have e : stat row p1 q1 p2 q2 = 2 := if_pos (.inr (by rw [hg, h2]))
      rw [e] at hQ
      exact hQ _ (List.prefix_refl _)
    · rw [decide_eq_false h2]
      dsimp only [t_law_due_3, qS1, qS2, qS3, qS4, qS5, qS6, qS7, qS8, qS9, qS10, qS11, qS12, qS13, qS14, qS15, qS16, qS17, qS18, qE1, qE2, qE3, qE4, qE5, qE6, qE7, qE8, qE9, qE10, qE11, qE12, qE13, qE14, qE15, qE16, qE17, qE18, qE19, qE20, qE21, qE22, qEs1, qEs2, wpAll, qO1, qO2, qI1, qI2, qI3, w_add, w_addl, w_sub, w_mul, w_mull, w_fdiv, w_mod, w_pow, w_lt, w_le, w_gt, w_ge, w_eq, w_ne, w_eqt, w_eql, w_net, w_nel, w_isn, w_ist, w_isi, w_isl, w_abs, w_lent, w_lenl, w_intb, w_list, w_tuple, w_min, w_idxt0, w_idxt1, w_idxu0, w_idxu1, w_idxu2, w_idxl, w_slcl, w_slct, w_tb, w_ti, w_tn, w_tt, w_tl, w_itt, w_itl, w_bindT1, w_bindT2, w_srcl, w_srct, w_cut2, w_cut1, w_cut1', w_cut0, w_ty1, w_ty2, w_ty3, w_ty4, w_ty5, w_ty6, w_ty7, w_ty8, w_ty9, w_ty10, w_ty11, w_ty12, w_ty13, w_ty14, w_ty15, w_ty16, w_ty17, w_ty18, w_ty19, w_ty20, w_ty21, w_mapc, w_mapn, w_appc, w_appn, w_repc, w_repn, w_start, w_lenc, w_ifT, w_ifF, w_ifFF, w_ifTF, w_nT, w_nF, w_anyT, w_anyF, w_d22, ifSome_some, ifLst_lst, ifTup_tup, ifInt_int, lget, lset, lsets, Nat.reduceSub, Nat.reduceAdd, List.length_nil, ↓reduceIte]
      have hn1 : ¬ (row.length < 2 ∨ row.getLast? = some 0) := fun h => by
        rcases h with h | h
        · exact h1 h
        · rw [hg] at h; exact h2 (Option.some.inj h)
      refine ⟨o.m12, o.m21, ?_⟩
      by_cases h3 : p2 * q1 ≤ p1 * q2
      · rw [decide_eq_true h3]
        have e : stat row p1 q1 p2 q2 = 3 := by unfold stat; rw [if_neg hn1, if_pos h3]
        rw [e] at hQ
        exact hQ _ (List.prefix_refl _)
      · rw [decide_eq_false h3]
        dsimp only [t_law_due_2, qS1, qS2, qS3, qS4, qS5, qS6, qS7, qS8, qS9, qS10, qS11, qS12, qS13, qS14, qS15, qS16, qS17, qS18, qE1, qE2, qE3, qE4, qE5, qE6, qE7, qE8, qE9, qE10, qE11, qE12, qE13, qE14, qE15, qE16, qE17, qE18, qE19, qE20, qE21, qE22, qEs1, qEs2, wpAll, qO1, qO2, qI1, qI2, qI3, w_add, w_addl, w_sub, w_mul, w_mull, w_fdiv, w_mod, w_pow, w_lt, w_le, w_gt, w_ge, w_eq, w_ne, w_eqt, w_eql, w_net, w_nel, w_isn, w_ist, w_isi, w_isl, w_abs, w_lent, w_lenl, w_intb, w_list, w_tuple, w_min, w_idxt0, w_idxt1, w_idxu0, w_idxu1, w_idxu2, w_idxl, w_slcl, w_slct, w_tb, w_ti, w_tn, w_tt, w_tl, w_itt, w_itl, w_bindT1, w_bindT2, w_srcl, w_srct, w_cut2, w_cut1, w_cut1', w_cut0, w_ty1, w_ty2, w_ty3, w_ty4, w_ty5, w_ty6, w_ty7, w_ty8, w_ty9, w_ty10, w_ty11, w_ty12, w_ty13, w_ty14, w_ty15, w_ty16, w_ty17, w_ty18, w_ty19, w_ty20, w_ty21, w_mapc, w_mapn, w_appc, w_appn, w_repc, w_repn, w_start, w_lenc, w_ifT, w_ifF, w_ifFF, w_ifTF, w_nT, w_nF, w_anyT, w_anyF, w_d22, ifSome_some, ifLst_lst, ifTup_tup, ifInt_int, lget, lset, lsets, Nat.reduceSub, Nat.reduceAdd, List.length_nil, ↓reduceIte]
        have e4 : (hval p1 q1 row = 0 ∨ hval p2 q2 row = 0 ∨ tv 0 (hs (p1 * q2) (p2 * q1) (q1 * q2) row) ≠ 1) → stat row p1 q1 p2 q2 = 4 := fun h4 => by unfold stat; rw [if_neg hn1, if_neg h3, if_pos h4]
        refine s_val rfl hm o.l9 o.sm o.low.top o.low.bot o.hBv ?_
        dsimp only [qS1, qS2, qS3, qS4, qS5, qS6, qS7, qS8, qS9, qS10, qS11, qS12, qS13, qS14, qS15, qS16, qS17, qS18, qE1, qE2, qE3, qE4, qE5, qE6, qE7, qE8, qE9, qE10, qE11, qE12, qE13, qE14, qE15, qE16, qE17, qE18, qE19, qE20, qE21, qE22, qEs1, qEs2, wpAll, qO1, qO2, qI1, qI2, qI3, w_add, w_addl, w_sub, w_mul, w_mull, w_fdiv, w_mod, w_pow, w_lt, w_le, w_gt, w_ge, w_eq, w_ne, w_eqt, w_eql, w_net, w_nel, w_isn, w_ist, w_isi, w_isl, w_abs, w_lent, w_lenl, w_intb, w_list, w_tuple, w_min, w_idxt0, w_idxt1, w_idxu0, w_idxu1, w_idxu2, w_idxl, w_slcl, w_slct, w_tb, w_ti, w_tn, w_tt, w_tl, w_itt, w_itl, w_bindT1, w_bindT2, w_srcl, w_srct, w_cut2, w_cut1, w_cut1', w_cut0, w_ty1, w_ty2, w_ty3, w_ty4, w_ty5, w_ty6, w_ty7, w_ty8, w_ty9, w_ty10, w_ty11, w_ty12, w_ty13, w_ty14, w_ty15, w_ty16, w_ty17, w_ty18, w_ty19, w_ty20, w_ty21, w_mapc, w_mapn, w_appc, w_appn, w_repc, w_repn, w_start, w_lenc, w_ifT, w_ifF, w_ifFF, w_ifTF, w_nT, w_nF, w_anyT, w_anyF, w_d22, ifSome_some, ifLst_lst, ifTup_tup, ifInt_int, lget, lset, lsets, Nat.reduceSub, Nat.reduceAdd, List.length_nil, ↓reduceIte]
        by_cases v1 : hval p1 q1 row = 0
        · rw [decide_eq_true v1]
          rw [e4 (.inl v1)] at hQ
          exact hQ _ (List.prefix_refl _)
        · rw [decide_eq_false v1]
          dsimp only [qS1, qS2, qS3, qS4, qS5, qS6, qS7, qS8, qS9, qS10, qS11, qS12, qS13, qS14, qS15, qS16, qS17, qS18, qE1, qE2, qE3, qE4, qE5, qE6, qE7, qE8, qE9, qE10, qE11, qE12, qE13, qE14, qE15, qE16, qE17, qE18, qE19, qE20, qE21, qE22, qEs1, qEs2, wpAll, qO1, qO2, qI1, qI2, qI3, w_add, w_addl, w_sub, w_mul, w_mull, w_fdiv, w_mod, w_pow, w_lt, w_le, w_gt, w_ge, w_eq, w_ne, w_eqt, w_eql, w_net, w_nel, w_isn, w_ist, w_isi, w_isl, w_abs, w_lent, w_lenl, w_intb, w_list, w_tuple, w_min, w_idxt0, w_idxt1, w_idxu0, w_idxu1, w_idxu2, w_idxl, w_slcl, w_slct, w_tb, w_ti, w_tn, w_tt, w_tl, w_itt, w_itl, w_bindT1, w_bindT2, w_srcl, w_srct, w_cut2, w_cut1, w_cut1', w_cut0, w_ty1, w_ty2, w_ty3, w_ty4, w_ty5, w_ty6, w_ty7, w_ty8, w_ty9, w_ty10, w_ty11, w_ty12, w_ty13, w_ty14, w_ty15, w_ty16, w_ty17, w_ty18, w_ty19, w_ty20, w_ty21, w_mapc, w_mapn, w_appc, w_appn, w_repc, w_repn, w_start, w_lenc, w_ifT, w_ifF, w_ifFF, w_ifTF, w_nT, w_nF, w_anyT, w_anyF, w_d22, ifSome_some, ifLst_lst, ifTup_tup, ifInt_int, lget, lset, lsets, Nat.reduceSub, Nat.reduceAdd, List.length_nil, ↓reduceIte]
          refine s_val rfl hm o.l9 o.sm o.high.top o.high.bot o.hBv ?_
          dsimp only [qS1, qS2, qS3, qS4, qS5, qS6, qS7, qS8, qS9, qS10, qS11, qS12, qS13, qS14, qS15, qS16, qS17, qS18, qE1, qE2, qE3, qE4, qE5, qE6, qE7, qE8, qE9, qE10, qE11, qE12, qE13, qE14, qE15, qE16, qE17, qE18, qE19, qE20, qE21, qE22, qEs1, qEs2, wpAll, qO1, qO2, qI1, qI2, qI3, w_add, w_addl, w_sub, w_mul, w_mull, w_fdiv, w_mod, w_pow, w_lt, w_le, w_gt, w_ge, w_eq, w_ne, w_eqt, w_eql, w_net, w_nel, w_isn, w_ist, w_isi, w_isl, w_abs, w_lent, w_lenl, w_intb, w_list, w_tuple, w_min, w_idxt0, w_idxt1, w_idxu0, w_idxu1, w_idxu2, w_idxl, w_slcl, w_slct, w_tb, w_ti, w_tn, w_tt, w_tl, w_itt, w_itl, w_bindT1, w_bindT2, w_srcl, w_srct, w_cut2, w_cut1, w_cut1', w_cut0, w_ty1, w_ty2, w_ty3, w_ty4, w_ty5, w_ty6, w_ty7, w_ty8, w_ty9, w_ty10, w_ty11, w_ty12, w_ty13, w_ty14, w_ty15, w_ty16, w_ty17, w_ty18, w_ty19, w_ty20, w_ty21, w_mapc, w_mapn, w_appc, w_appn, w_repc, w_repn, w_start, w_lenc, w_ifT, w_ifF, w_ifFF, w_ifTF, w_nT, w_nF, w_anyT, w_anyF, w_d22, ifSome_some, ifLst_lst, ifTup_tup, ifInt_int, lget, lset, lsets, Nat.reduceSub, Nat.reduceAdd, List.length_nil, ↓reduceIte]
          by_cases v2 : hval p2 q2 row = 0
          · rw [decide_eq_true v2]
            rw [e4 (.inr (.inl v2))] at hQ
            exact hQ _ (List.prefix_refl _)
          · rw [decide_eq_false v2]
            dsimp only [qS1, qS2, qS3, qS4, qS5, qS6, qS7, qS8, qS9, qS10, qS11, qS12, qS13, qS14, qS15, qS16, qS17, qS18, qE1, qE2, qE3, qE4, qE5, qE6, qE7, qE8, qE9, qE10, qE11, qE12, qE13, qE14, qE15, qE16, qE17, qE18, qE19, qE20, qE21, qE22, qEs1, qEs2, wpAll, qO1, qO2, qI1, qI2, qI3, w_add, w_addl, w_sub, w_mul, w_mull, w_fdiv, w_mod, w_pow, w_lt, w_le, w_gt, w_ge, w_eq, w_ne, w_eqt, w_eql, w_net, w_nel, w_isn, w_ist, w_isi, w_isl, w_abs, w_lent, w_lenl, w_intb, w_list, w_tuple, w_min, w_idxt0, w_idxt1, w_idxu0, w_idxu1, w_idxu2, w_idxl, w_slcl, w_slct, w_tb, w_ti, w_tn, w_tt, w_tl, w_itt, w_itl, w_bindT1, w_bindT2, w_srcl, w_srct, w_cut2, w_cut1, w_cut1', w_cut0, w_ty1, w_ty2, w_ty3, w_ty4, w_ty5, w_ty6, w_ty7, w_ty8, w_ty9, w_ty10, w_ty11, w_ty12, w_ty13, w_ty14, w_ty15, w_ty16, w_ty17, w_ty18, w_ty19, w_ty20, w_ty21, w_mapc, w_mapn, w_appc, w_appn, w_repc, w_repn, w_start, w_lenc, w_ifT, w_ifF, w_ifFF, w_ifTF, w_nT, w_nF, w_anyT, w_anyF, w_d22, ifSome_some, ifLst_lst, ifTup_tup, ifInt_int, lget, lset, lsets, Nat.reduceSub, Nat.reduceAdd, List.length_nil, ↓reduceIte]
            refine s_lturns5 o hm fun H' hp => ?_
            dsimp only [qS1, qS2, qS3, qS4, qS5, qS6, qS7, qS8, qS9, qS10, qS11, qS12, qS13, qS14, qS15, qS16, qS17, qS18, qE1, qE2, qE3, qE4, qE5, qE6, qE7, qE8, qE9, qE10, qE11, qE12, qE13, qE14, qE15, qE16, qE17, qE18, qE19, qE20, qE21, qE22, qEs1, qEs2, wpAll, qO1, qO2, qI1, qI2, qI3, w_add, w_addl, w_sub, w_mul, w_mull, w_fdiv, w_mod, w_pow, w_lt, w_le, w_gt, w_ge, w_eq, w_ne, w_eqt, w_eql, w_net, w_nel, w_isn, w_ist, w_isi, w_isl, w_abs, w_lent, w_lenl, w_intb, w_list, w_tuple, w_min, w_idxt0, w_idxt1, w_idxu0, w_idxu1, w_idxu2, w_idxl, w_slcl, w_slct, w_tb, w_ti, w_tn, w_tt, w_tl, w_itt, w_itl, w_bindT1, w_bindT2, w_srcl, w_srct, w_cut2, w_cut1, w_cut1', w_cut0, w_ty1, w_ty2, w_ty3, w_ty4, w_ty5, w_ty6, w_ty7, w_ty8, w_ty9, w_ty10, w_ty11, w_ty12, w_ty13, w_ty14, w_ty15, w_ty16, w_ty17, w_ty18, w_ty19, w_ty20, w_ty21, w_mapc, w_mapn, w_appc, w_appn, w_repc, w_repn, w_start, w_lenc, w_ifT, w_ifF, w_ifFF, w_ifTF, w_nT, w_nF, w_anyT, w_anyF, w_d22, ifSome_some, ifLst_lst, ifTup_tup, ifInt_int, lget, lset, lsets, Nat.reduceSub, Nat.reduceAdd, List.length_nil, ↓reduceIte]
            by_cases h5 : tv 0 (hs (p1 * q2) (p2 * q1) (q1 * q2) row) = 1
            · rw [decide_eq_true h5]
              have e : stat row p1 q1 p2 q2 = 0 := by unfold stat; rw [if_neg hn1, if_neg h3, if_neg (fun h => by rcases h with h | h | h; exact v1 h; exact v2 h; exact h h5)]
              rw [e] at hQ
              exact hQ _ hp
            · rw [decide_eq_false h5]
              rw [e4 (.inr (.inr h5))] at hQ
              exact hQ _ hp
/-- a peg in its smallest form -/
theorem peg_ok (o : Ok row p1 q1 p2 q2) {l : Int} (hg : row.getLast? = some l) (h0 : l ≠ 0) (hs0 : stat row p1 q1 p2 q2 = 0) : IsPeg 200 (redI row l) (l.fdiv (gOf row l)) p1 q1 p2 q2 := by
  have hm := List.mem_of_getLast? hg
  unfold stat at hs0
  by_cases h1 : row.length < 2 ∨ row.getLast? = some 0
  · rw [if_pos h1] at hs0; cases hs0
  · rw [if_neg h1] at hs0
    by_cases h2 : p2 * q1 ≤ p1 * q2
    · rw [if_pos h2] at hs0; cases hs0
    · rw [if_neg h2] at hs0
      by_cases h3 : hval p1 q1 row = 0 ∨ hval p2 q2 row = 0 ∨ tv 0 (hs (p1 * q2) (p2 * q1) (q1 * q2) row) ≠ 1
      · rw [if_pos h3] at hs0; cases hs0
      · refine ⟨?_, ?_, ?_, redI_last hm h0, redI_gcd hm h0, redI_sm hm h0 o.sm, o.low, o.high, Int.not_le.mp h2, fun h => h3 (.inl ((hval_red hm h0).mp h)), fun h => h3 (.inr (.inl ((hval_red hm h0).mp h))), ?_⟩
        · rw [redI_len]; exact Nat.not_lt.mp fun h => h1 (.inl h)
        · rw [redI_len]; exact Nat.le_trans o.len (by decide)
        · unfold redI; rw [List.getLast?_map, hg]; rfl
        · rw [tv_red hm h0]
          exact Classical.byContradiction fun h => h3 (.inr (.inr h))
theorem gcd_shift {p q : Int} (h : p.gcd q = 1) : (p * 1 + -1 * q).gcd (q * 1) = 1 ∧ (p * 1 + 1 * q).gcd (q * 1) = 1 ∧ (p - q).gcd q = 1 ∧ (p + q).gcd q = 1 := by
  have h1 : (p - q).gcd q = 1 := by
    have := Int.gcd_sub_mul_right_left q p 1
    rw [Int.one_mul, h] at this; exact this
  have h2 : (p + q).gcd q = 1 := by
    have := Int.gcd_sub_mul_right_left q p (-1)
    rw [h] at this
    rw [show p + q = p - -1 * q by omega]; exact this
  refine ⟨?_, ?_, h1, h2⟩
  · rw [Int.mul_one, Int.mul_one, show p + -1 * q = p - q by omega]; exact h1
  · rw [Int.mul_one, Int.mul_one, Int.one_mul]; exact h2
theorem s_ofpart {p q : Int} (a : Low 200 p q) (hQ : Q (.tup [.tup [.int (-p), .int q], .tup [.int (p - q), .int q], .tup [.int (p + q), .int q]]) H) : callN nosub fnTab (n + 4) 11 [.tup [.int p, .int q]] H Q X := by
  refine callN_mk rfl rfl ?_
  dsimp only [b_of_part, qS1, qS2, qS3, qS4, qS5, qS6, qS7, qS8, qS9, qS10, qS11, qS12, qS13, qS14, qS15, qS16, qS17, qS18, qE1, qE2, qE3, qE4, qE5, qE6, qE7, qE8, qE9, qE10, qE11, qE12, qE13, qE14, qE15, qE16, qE17, qE18, qE19, qE20, qE21, qE22, qEs1, qEs2, wpAll, qO1, qO2, qI1, qI2, qI3, w_add, w_addl, w_sub, w_mul, w_mull, w_fdiv, w_mod, w_pow, w_lt, w_le, w_gt, w_ge, w_eq, w_ne, w_eqt, w_eql, w_net, w_nel, w_isn, w_ist, w_isi, w_isl, w_abs, w_lent, w_lenl, w_intb, w_list, w_tuple, w_min, w_idxt0, w_idxt1, w_idxu0, w_idxu1, w_idxu2, w_idxl, w_slcl, w_slct, w_tb, w_ti, w_tn, w_tt, w_tl, w_itt, w_itl, w_bindT1, w_bindT2, w_srcl, w_srct, w_cut2, w_cut1, w_cut1', w_cut0, w_ty1, w_ty2, w_ty3, w_ty4, w_ty5, w_ty6, w_ty7, w_ty8, w_ty9, w_ty10, w_ty11, w_ty12, w_ty13, w_ty14, w_ty15, w_ty16, w_ty17, w_ty18, w_ty19, w_ty20, w_ty21, w_mapc, w_mapn, w_appc, w_appn, w_repc, w_repn, w_start, w_lenc, w_ifT, w_ifF, w_ifFF, w_ifTF, w_nT, w_nF, w_anyT, w_anyF, w_d22, ifSome_some, ifLst_lst, ifTup_tup, ifInt_int, lget, lset, lsets, Nat.reduceSub, Nat.reduceAdd, List.length_nil, ↓reduceIte]
  obtain ⟨g1, g2, _, _⟩ := gcd_shift a.one
  have hq1 : 0 < q * 1 := by rw [Int.mul_one]; exact a.pos
  have hs1 : Sm 1000 (q * 1) := by rw [Int.mul_one]; exact a.bot.mono (by decide)
  have sm1 : Sm 64 (1 : Int) := by unfold Sm; decide
  have sm1' : Sm 64 (-1 : Int) := by unfold Sm; decide
  refine s_psum rfl rfl rfl (IntMulOk.right sm1) (IntMulOk.left sm1') (IntMulOk.right sm1) hq1 hs1 ?_
  refine s_psum rfl rfl rfl (IntMulOk.right sm1) (IntMulOk.left sm1) (IntMulOk.right sm1) hq1 hs1 ?_
  rw [g1, g2]
  have e1 : p * 1 + -1 * q = p - q := by omega
  have e2 : p * 1 + 1 * q = p + q := by omega
  rw [e1, e2, Int.mul_one, show (((1 : Nat) : Int)) = 1 from rfl, Int.fdiv_one, Int.fdiv_one, Int.fdiv_one]
  exact hQ
theorem ofpart_ok {p q : Int} (a : Low 200 p q) : IsPeg 300 [-p, q] q (p - q) q (p + q) q := by
  obtain ⟨_, _, g1, g2⟩ := gcd_shift a.one
  have hq := a.pos
  have hqq : 0 < q * q := Int.mul_pos hq hq
  have hqqq : 0 < q * q * q := Int.mul_pos hqq hq
  refine ⟨by simp, by simp, rfl, hq, ?_, ?_, ⟨(Sm.sub a.top a.bot).mono (by decide), a.bot.mono (by decide), hq, g1⟩, ⟨(Sm.add a.top a.bot).mono (by decide), a.bot.mono (by decide), hq, g2⟩, ?_, ?_, ?_, ?_⟩
  · show Nat.gcd (Nat.gcd 0 (-p).natAbs) q.natAbs = 1
    rw [Nat.gcd_zero_left, Int.natAbs_neg]; exact a.one
  · exact .cons (a.top.neg.mono (by decide)) (.cons (a.bot.mono (by decide)) .nil)
  · exact Int.mul_lt_mul_of_pos_right (by omega) hq
  · have e : hval (p - q) q [-p, q] = -(q * q) := by simp [hval]; grind
    rw [e]; omega
  · have e : hval (p + q) q [-p, q] = q * q := by simp [hval]; grind
    rw [e]; omega
  · have e : hs ((p - q) * q) ((p + q) * q) (q * q) [-p, q] = [-(q * q * q), q * q * q] := by
      simp [hs, mulG, mulN, addL, smul]; grind
    rw [e]
    generalize q * q * q = x at *
    have h1 : ¬ (0 : Int) * -x < 0 := by rw [Int.zero_mul]; decide
    have h2 : -x * x < 0 := by rw [Int.neg_mul]; have := Int.mul_pos hqqq hqqq; omega
    show (if (0 : Int) * -x < 0 then 1 else 0) + ((if (if -x = 0 then 0 else -x) * x < 0 then 1 else 0) + 0) = 1
    rw [if_neg h1, if_neg (show ¬ -x = 0 by omega), if_pos h2]; rfl
end
/-- what _law_told hands back -/
noncomputable def Psi : Nat → List V → Hp → (V → Hp → Prop) → Prop := fun k vs H Q => k = 27 ∧ vs.length = 3 ∧ wpS nosub (callN nosub fnTab 5) (fun m => H.length ≤ m) b_peg (startLoc 3 3 vs) H (fun _ H' => Q (.tup [.str (Str.ofString ""), .none]) H') (fun v H' => Q (.tup [.str (Str.ofString ""), v]) H') (fun c H' => (c = 2 ∨ c = 3 ∨ c = 4) ∧ Q (.tup [.str (wordOf c), .none]) H)
noncomputable def F (t : PS) (ρ : Loc) (H : Hp) : Prop := wpS nosub (topC Psi (callN nosub fnTab 6)) (fun m => 1 ≤ m) t ρ H (fun _ _ => V.none = .bool true) (fun v _ => v = .bool true) (fun _ _ => False)
noncomputable def pegV (row : List Int) (p1 q1 p2 q2 : Int) : V := .tup [.tup (row.map .int), .tup [.int p1, .int q1], .tup [.int p2, .int q2]]
noncomputable def toldV (row : List Int) (l p1 q1 p2 q2 : Int) : V := if stat row p1 q1 p2 q2 = 0 then .tup [.str (Str.ofString ""), pegV (redI row l) p1 q1 p2 q2] else .tup [.str (wordOf (stat row p1 q1 p2 q2)), .none]
section
variable {H : Hp} {row ns : List Int} {p1 q1 p2 q2 l : Int} {r hd : Nat} {o1 o2 o3 o4 : Option V}
theorem s_told (o : Ok row p1 q1 p2 q2) (hl : stat row p1 q1 p2 q2 = 0 → row.getLast? = some l) {v : V} {Q : V → Hp → Prop} (hv : items H v = some (row.map .int)) (hQ : ∀ H', H <+: H' → Q (toldV row l p1 q1 p2 q2) H') : Psi 27 [v, .tup [.int p1, .int q1], .tup [.int p2, .int q2]] H Q := by
  refine ⟨rfl, rfl, ?_⟩
  refine s_pegB (n := 1) o hv (fun hs H' hp => ?_) (fun hs l' hg h0 H' hp => ?_)
  · unfold toldV at hQ
    rw [if_neg hs] at hQ
    refine ⟨?_, hQ _ (List.prefix_refl _)⟩
    rcases stat_or (row := row) (p1 := p1) (q1 := q1) (p2 := p2) (q2 := q2) with h | h
    · exact (hs h).elim
    · exact h
  · unfold toldV at hQ
    rw [if_pos hs] at hQ
    have e := hl hs
    rw [hg] at e
    cases e
    exact hQ _ hp
theorem dat_peg {n : Nat} : datOf H (n + 2) (pegV row p1 q1 p2 q2) = some (.tuple [.tuple (row.map .int), .tuple [.int p1, .int q1], .tuple [.int p2, .int q2]]) := by
  refine datOf_tup ?_
  have h1 : datOf H (n + 1) (.tup (row.map .int)) = some (.tuple (row.map .int)) := datOf_tup (mapM_ints row)
  have h2 : ∀ a b : Int, datOf H (n + 1) (.tup [.int a, .int b]) = some (.tuple [.int a, .int b]) := fun a b => datOf_tup (mapM_ints [a, b])
  simp only [List.mapM_cons, List.mapM_nil, h1, h2]; rfl
theorem eqv_peg : PyData.eqv (.tuple [.tuple (row.map .int), .tuple [.int p1, .int q1], .tuple [.int p2, .int q2]]) (.tuple [.tuple (row.map .int), .tuple [.int p1, .int q1], .tuple [.int p2, .int q2]]) = true := by
  have h := @eqv_ints row
  have h2 := @eqv_ints [p1, q1]
  have h3 := @eqv_ints [p2, q2]
  simp only [PyData.eqv, PyData.eqvAll, h]
  simp
theorem word_same {s : Str} {Q : V → Hp → Prop} (hs : PyData.strOk s = true) (hQ : Q (.bool false) H) : cmpWp .ne (.tup [.str s, .none]) (.tup [.str s, .none]) H Q := by
  have hd : datOf H 4 (.tup [.str s, .none]) = some (.tuple [.str s, .none]) := by
    refine datOf_tup ?_
    simp only [List.mapM_cons, List.mapM_nil, dat_str hs, dat_none]; rfl
  refine ⟨_, _, hd, hd, ?_⟩
  rw [show PyData.eqv (.tuple [.str s, .none]) (.tuple [.str s, .none]) = true by rw [PyData.eqv, PyData.eqvAll, PyData.eqvAll, PyData.eqvAll, eqv_str]; rfl]
  exact hQ
/-- the same twice -/
theorem told_same {Q : V → Hp → Prop} (hQ : Q (.bool false) H) : cmpWp .ne (toldV row l p1 q1 p2 q2) (toldV row l p1 q1 p2 q2) H Q := by
  unfold toldV
  by_cases hs : stat row p1 q1 p2 q2 = 0
  · rw [if_pos hs]
    have hd : datOf H 4 (.tup [.str (Str.ofString ""), pegV (redI row l) p1 q1 p2 q2]) = some (.tuple [.str (Str.ofString ""), .tuple [.tuple ((redI row l).map .int), .tuple [.int p1, .int q1], .tuple [.int p2, .int q2]]]) := by
      refine datOf_tup ?_
      have h1 : datOf H 3 (.str (Str.ofString "")) = some (.str (Str.ofString "")) := dat_str (by decide +kernel)
      simp only [List.mapM_cons, List.mapM_nil, h1, dat_peg]; rfl
    refine ⟨_, _, hd, hd, ?_⟩
    have h := @eqv_peg (redI row l) p1 q1 p2 q2
    rw [show PyData.eqv (.tuple [.str (Str.ofString ""), .tuple [.tuple ((redI row l).map .int), .tuple [.int p1, .int q1], .tuple [.int p2, .int q2]]]) (.tuple [.str (Str.ofString ""), .tuple [.tuple ((redI row l).map .int), .tuple [.int p1, .int q1], .tuple [.int p2, .int q2]]]) = true by
      rw [PyData.eqv, PyData.eqvAll, PyData.eqvAll, PyData.eqvAll, h, eqv_str]; rfl]
    exact hQ
  · rw [if_neg hs]
    rcases stat_or (row := row) (p1 := p1) (q1 := q1) (p2 := p2) (q2 := q2) with h | h | h | h
    · exact (hs h).elim
    all_goals
      rw [h]
      refine word_same ?_ hQ
      decide +kernel
theorem w_eqs {a : Str} {y : V} {Q : V → Hp → Prop} : cmpWp .eq (.str a) y H Q = eqWp (.str a) y H fun b => Q (.bool b) H := rfl
theorem w_nes {a : Str} {y : V} {Q : V → Hp → Prop} : cmpWp .ne (.str a) y H Q = eqWp (.str a) y H fun b => Q (.bool (!b)) H := rfl
theorem word_ok : ∀ k : Nat, PyData.strOk (wordOf k) = true
  | 0 => by decide +kernel
  | 1 => by decide +kernel
  | 2 => by decide +kernel
  | 3 => by decide +kernel
  | 4 => by decide +kernel
  | k + 5 => by show PyData.strOk (Str.ofString "") = true; decide +kernel
theorem word_eq {Q : Bool → Prop} (hQ : Q (decide (stat row p1 q1 p2 q2 = 0))) : eqWp (.str (wordOf (stat row p1 q1 p2 q2))) (.str (Str.ofString "")) H Q := by
  refine ⟨_, _, dat_str (word_ok _), dat_str (by decide +kernel), ?_⟩
  rcases stat_or (row := row) (p1 := p1) (q1 := q1) (p2 := p2) (q2 := q2) with h | h | h | h <;> rw [h] at hQ ⊢
  · rw [show PyData.eqv (.str (wordOf 0)) (.str (Str.ofString "")) = true by decide +kernel]; exact hQ
  · rw [show PyData.eqv (.str (wordOf 2)) (.str (Str.ofString "")) = false by decide +kernel]; exact hQ
  · rw [show PyData.eqv (.str (wordOf 3)) (.str (Str.ofString "")) = false by decide +kernel]; exact hQ
  · rw [show PyData.eqv (.str (wordOf 4)) (.str (Str.ofString "")) = false by decide +kernel]; exact hQ
theorem told_0 {Q : V → Hp → Prop} (hQ : Q (.str (wordOf (stat row p1 q1 p2 q2))) H) : idxWp (toldV row l p1 q1 p2 q2) (.int 0) H Q := by
  unfold toldV
  by_cases hs : stat row p1 q1 p2 q2 = 0
  · rw [if_pos hs]; rw [hs] at hQ; exact hQ
  · rw [if_neg hs]; exact hQ
theorem told_1 (hs : stat row p1 q1 p2 q2 = 0) {Q : V → Hp → Prop} (hQ : Q (pegV (redI row l) p1 q1 p2 q2) H) : idxWp (toldV row l p1 q1 p2 q2) (.int 1) H Q := by
  unfold toldV
  rw [if_pos hs]; exact hQ
theorem eqWp_two {a b c d : Int} {Q : Bool → Prop} (hQ : Q true) : eqWp (.tup [.tup [.int a, .int b], .tup [.int c, .int d]]) (.tup [.tup [.int a, .int b], .tup [.int c, .int d]]) H Q := by
  have h2 : ∀ a b : Int, datOf H 3 (.tup [.int a, .int b]) = some (.tuple [.int a, .int b]) := fun a b => datOf_tup (mapM_ints [a, b])
  have hd : datOf H 4 (.tup [.tup [.int a, .int b], .tup [.int c, .int d]]) = some (.tuple [.tuple [.int a, .int b], .tuple [.int c, .int d]]) := by
    refine datOf_tup ?_
    simp only [List.mapM_cons, List.mapM_nil, h2]; rfl
  refine ⟨_, _, hd, hd, ?_⟩
  have e1 := @eqv_ints [a, b]
  have e2 := @eqv_ints [c, d]
  rw [show PyData.eqv (.tuple [.tuple [.int a, .int b], .tuple [.int c, .int d]]) (.tuple [.tuple [.int a, .int b], .tuple [.int c, .int d]]) = true by simp only [PyData.eqv, PyData.eqvAll]; simp]
  exact hQ
theorem tail2 (a : Low 200 p1 q1) : F t_law_2 [some (.lst 0), o1, some (.tup [.int p1, .int q1]), o2, o3, o4, none] H := by
  unfold F
  dsimp only [t_law_2, qS1, qS2, qS3, qS4, qS5, qS6, qS7, qS8, qS9, qS10, qS11, qS12, qS13, qS14, qS15, qS16, qS17, qS18, qE1, qE2, qE3, qE4, qE5, qE6, qE7, qE8, qE9, qE10, qE11, qE12, qE13, qE14, qE15, qE16, qE17, qE18, qE19, qE20, qE21, qE22, qEs1, qEs2, wpAll, qO1, qO2, qI1, qI2, qI3, w_add, w_addl, w_sub, w_mul, w_mull, w_fdiv, w_mod, w_pow, w_lt, w_le, w_gt, w_ge, w_eq, w_ne, w_eqt, w_eql, w_net, w_nel, w_isn, w_ist, w_isi, w_isl, w_abs, w_lent, w_lenl, w_intb, w_list, w_tuple, w_min, w_idxt0, w_idxt1, w_idxu0, w_idxu1, w_idxu2, w_idxl, w_slcl, w_slct, w_tb, w_ti, w_tn, w_tt, w_tl, w_itt, w_itl, w_bindT1, w_bindT2, w_srcl, w_srct, w_cut2, w_cut1, w_cut1', w_cut0, w_ty1, w_ty2, w_ty3, w_ty4, w_ty5, w_ty6, w_ty7, w_ty8, w_ty9, w_ty10, w_ty11, w_ty12, w_ty13, w_ty14, w_ty15, w_ty16, w_ty17, w_ty18, w_ty19, w_ty20, w_ty21, w_mapc, w_mapn, w_appc, w_appn, w_repc, w_repn, w_start, w_lenc, w_ifT, w_ifF, w_ifFF, w_ifTF, w_nT, w_nF, w_anyT, w_anyF, w_d22, ifSome_some, ifLst_lst, ifTup_tup, ifInt_int, lget, lset, lsets, Nat.reduceSub, Nat.reduceAdd, List.length_nil, ↓reduceIte]
  refine topC_c (by decide) (s_ofpart (n := 2) a ?_)
  dsimp only [qS1, qS2, qS3, qS4, qS5, qS6, qS7, qS8, qS9, qS10, qS11, qS12, qS13, qS14, qS15, qS16, qS17, qS18, qE1, qE2, qE3, qE4, qE5, qE6, qE7, qE8, qE9, qE10, qE11, qE12, qE13, qE14, qE15, qE16, qE17, qE18, qE19, qE20, qE21, qE22, qEs1, qEs2, wpAll, qO1, qO2, qI1, qI2, qI3, w_add, w_addl, w_sub, w_mul, w_mull, w_fdiv, w_mod, w_pow, w_lt, w_le, w_gt, w_ge, w_eq, w_ne, w_eqt, w_eql, w_net, w_nel, w_isn, w_ist, w_isi, w_isl, w_abs, w_lent, w_lenl, w_intb, w_list, w_tuple, w_min, w_idxt0, w_idxt1, w_idxu0, w_idxu1, w_idxu2, w_idxl, w_slcl, w_slct, w_tb, w_ti, w_tn, w_tt, w_tl, w_itt, w_itl, w_bindT1, w_bindT2, w_srcl, w_srct, w_cut2, w_cut1, w_cut1', w_cut0, w_ty1, w_ty2, w_ty3, w_ty4, w_ty5, w_ty6, w_ty7, w_ty8, w_ty9, w_ty10, w_ty11, w_ty12, w_ty13, w_ty14, w_ty15, w_ty16, w_ty17, w_ty18, w_ty19, w_ty20, w_ty21, w_mapc, w_mapn, w_appc, w_appn, w_repc, w_repn, w_start, w_lenc, w_ifT, w_ifF, w_ifFF, w_ifTF, w_nT, w_nF, w_anyT, w_anyF, w_d22, ifSome_some, ifLst_lst, ifTup_tup, ifInt_int, lget, lset, lsets, Nat.reduceSub, Nat.reduceAdd, List.length_nil, ↓reduceIte]
  refine topC_c (by decide) (s_ispeg (n := 2) (row := [-p1, q1]) rfl rfl rfl rfl rfl rfl rfl rfl rfl rfl (by decide) (ofpart_ok a) fun H' hp => ?_)
  dsimp only [qS1, qS2, qS3, qS4, qS5, qS6, qS7, qS8, qS9, qS10, qS11, qS12, qS13, qS14, qS15, qS16, qS17, qS18, qE1, qE2, qE3, qE4, qE5, qE6, qE7, qE8, qE9, qE10, qE11, qE12, qE13, qE14, qE15, qE16, qE17, qE18, qE19, qE20, qE21, qE22, qEs1, qEs2, wpAll, qO1, qO2, qI1, qI2, qI3, w_add, w_addl, w_sub, w_mul, w_mull, w_fdiv, w_mod, w_pow, w_lt, w_le, w_gt, w_ge, w_eq, w_ne, w_eqt, w_eql, w_net, w_nel, w_isn, w_ist, w_isi, w_isl, w_abs, w_lent, w_lenl, w_intb, w_list, w_tuple, w_min, w_idxt0, w_idxt1, w_idxu0, w_idxu1, w_idxu2, w_idxl, w_slcl, w_slct, w_tb, w_ti, w_tn, w_tt, w_tl, w_itt, w_itl, w_bindT1, w_bindT2, w_srcl, w_srct, w_cut2, w_cut1, w_cut1', w_cut0, w_ty1, w_ty2, w_ty3, w_ty4, w_ty5, w_ty6, w_ty7, w_ty8, w_ty9, w_ty10, w_ty11, w_ty12, w_ty13, w_ty14, w_ty15, w_ty16, w_ty17, w_ty18, w_ty19, w_ty20, w_ty21, w_mapc, w_mapn, w_appc, w_appn, w_repc, w_repn, w_start, w_lenc, w_ifT, w_ifF, w_ifFF, w_ifTF, w_nT, w_nF, w_anyT, w_anyF, w_d22, ifSome_some, ifLst_lst, ifTup_tup, ifInt_int, lget, lset, lsets, Nat.reduceSub, Nat.reduceAdd, List.length_nil, ↓reduceIte]
  refine eqWp_pair ?_
  rw [decide_eq_true ⟨(Int.zero_sub p1).symm, rfl⟩]
  dsimp only [t_law_1, qS1, qS2, qS3, qS4, qS5, qS6, qS7, qS8, qS9, qS10, qS11, qS12, qS13, qS14, qS15, qS16, qS17, qS18, qE1, qE2, qE3, qE4, qE5, qE6, qE7, qE8, qE9, qE10, qE11, qE12, qE13, qE14, qE15, qE16, qE17, qE18, qE19, qE20, qE21, qE22, qEs1, qEs2, wpAll, qO1, qO2, qI1, qI2, qI3, w_add, w_addl, w_sub, w_mul, w_mull, w_fdiv, w_mod, w_pow, w_lt, w_le, w_gt, w_ge, w_eq, w_ne, w_eqt, w_eql, w_net, w_nel, w_isn, w_ist, w_isi, w_isl, w_abs, w_lent, w_lenl, w_intb, w_list, w_tuple, w_min, w_idxt0, w_idxt1, w_idxu0, w_idxu1, w_idxu2, w_idxl, w_slcl, w_slct, w_tb, w_ti, w_tn, w_tt, w_tl, w_itt, w_itl, w_bindT1, w_bindT2, w_srcl, w_srct, w_cut2, w_cut1, w_cut1', w_cut0, w_ty1, w_ty2, w_ty3, w_ty4, w_ty5, w_ty6, w_ty7, w_ty8, w_ty9, w_ty10, w_ty11, w_ty12, w_ty13, w_ty14, w_ty15, w_ty16, w_ty17, w_ty18, w_ty19, w_ty20, w_ty21, w_mapc, w_mapn, w_appc, w_appn, w_repc, w_repn, w_start, w_lenc, w_ifT, w_ifF, w_ifFF, w_ifTF, w_nT, w_nF, w_anyT, w_anyF, w_d22, ifSome_some, ifLst_lst, ifTup_tup, ifInt_int, lget, lset, lsets, Nat.reduceSub, Nat.reduceAdd, List.length_nil, ↓reduceIte]
  refine .inl ⟨1, rfl, rfl, by decide, by decide, ?_⟩
  obtain ⟨_, _, g1, g2⟩ := gcd_shift a.one
  refine topC_c (by decide) (s_part (n := 4) rfl rfl a.pos (a.bot.mono (by decide)) fun x y e1 e2 => ?_)
  refine topC_c (by decide) (s_part (n := 4) rfl rfl a.pos (a.bot.mono (by decide)) fun x' y' e3 e4 => ?_)
  rw [g1] at e1 e2
  rw [g2] at e3 e4
  have f1 : x = p1 - q1 := by rw [← e1]; exact (Int.mul_one _).symm
  have f2 : y = q1 := by rw [← e2]; exact (Int.mul_one _).symm
  have f3 : x' = p1 + q1 := by rw [← e3]; exact (Int.mul_one _).symm
  have f4 : y' = q1 := by rw [← e4]; exact (Int.mul_one _).symm
  subst f1 f3
  rw [f2, f4]
  show eqWp (.tup [.tup [.int (p1 - q1), .int q1], .tup [.int (p1 + q1), .int q1]]) _ _ _
  exact eqWp_two rfl
theorem tail3 (o : Ok row p1 q1 p2 q2) (hl : stat row p1 q1 p2 q2 = 0 → row.getLast? = some l ∧ l ≠ 0) (hr : H[r]? = some (row.map .int)) :
    F t_law_3 [some (.lst 0), some (.lst r), some (.tup [.int p1, .int q1]), some (.tup [.int p2, .int q2]), o3, some (toldV row l p1 q1 p2 q2), none] H := by
  unfold F
  dsimp only [t_law_3, qS1, qS2, qS3, qS4, qS5, qS6, qS7, qS8, qS9, qS10, qS11, qS12, qS13, qS14, qS15, qS16, qS17, qS18, qE1, qE2, qE3, qE4, qE5, qE6, qE7, qE8, qE9, qE10, qE11, qE12, qE13, qE14, qE15, qE16, qE17, qE18, qE19, qE20, qE21, qE22, qEs1, qEs2, wpAll, qO1, qO2, qI1, qI2, qI3, w_add, w_addl, w_sub, w_mul, w_mull, w_fdiv, w_mod, w_pow, w_lt, w_le, w_gt, w_ge, w_eq, w_ne, w_eqt, w_eql, w_net, w_nel, w_isn, w_ist, w_isi, w_isl, w_abs, w_lent, w_lenl, w_intb, w_list, w_tuple, w_min, w_idxt0, w_idxt1, w_idxu0, w_idxu1, w_idxu2, w_idxl, w_slcl, w_slct, w_tb, w_ti, w_tn, w_tt, w_tl, w_itt, w_itl, w_bindT1, w_bindT2, w_srcl, w_srct, w_cut2, w_cut1, w_cut1', w_cut0, w_ty1, w_ty2, w_ty3, w_ty4, w_ty5, w_ty6, w_ty7, w_ty8, w_ty9, w_ty10, w_ty11, w_ty12, w_ty13, w_ty14, w_ty15, w_ty16, w_ty17, w_ty18, w_ty19, w_ty20, w_ty21, w_mapc, w_mapn, w_appc, w_appn, w_repc, w_repn, w_start, w_lenc, w_ifT, w_ifF, w_ifFF, w_ifTF, w_nT, w_nF, w_anyT, w_anyF, w_d22, ifSome_some, ifLst_lst, ifTup_tup, ifInt_int, lget, lset, lsets, Nat.reduceSub, Nat.reduceAdd, List.length_nil, ↓reduceIte]
  refine told_0 ?_
  dsimp only [w_eqs]
  refine word_eq ?_
  by_cases hs : stat row p1 q1 p2 q2 = 0
  · rw [decide_eq_true hs]
    dsimp only [qS1, qS2, qS3, qS4, qS5, qS6, qS7, qS8, qS9, qS10, qS11, qS12, qS13, qS14, qS15, qS16, qS17, qS18, qE1, qE2, qE3, qE4, qE5, qE6, qE7, qE8, qE9, qE10, qE11, qE12, qE13, qE14, qE15, qE16, qE17, qE18, qE19, qE20, qE21, qE22, qEs1, qEs2, wpAll, qO1, qO2, qI1, qI2, qI3, w_add, w_addl, w_sub, w_mul, w_mull, w_fdiv, w_mod, w_pow, w_lt, w_le, w_gt, w_ge, w_eq, w_ne, w_eqt, w_eql, w_net, w_nel, w_isn, w_ist, w_isi, w_isl, w_abs, w_lent, w_lenl, w_intb, w_list, w_tuple, w_min, w_idxt0, w_idxt1, w_idxu0, w_idxu1, w_idxu2, w_idxl, w_slcl, w_slct, w_tb, w_ti, w_tn, w_tt, w_tl, w_itt, w_itl, w_bindT1, w_bindT2, w_srcl, w_srct, w_cut2, w_cut1, w_cut1', w_cut0, w_ty1, w_ty2, w_ty3, w_ty4, w_ty5, w_ty6, w_ty7, w_ty8, w_ty9, w_ty10, w_ty11, w_ty12, w_ty13, w_ty14, w_ty15, w_ty16, w_ty17, w_ty18, w_ty19, w_ty20, w_ty21, w_mapc, w_mapn, w_appc, w_appn, w_repc, w_repn, w_start, w_lenc, w_ifT, w_ifF, w_ifFF, w_ifTF, w_nT, w_nF, w_anyT, w_anyF, w_d22, ifSome_some, ifLst_lst, ifTup_tup, ifInt_int, lget, lset, lsets, Nat.reduceSub, Nat.reduceAdd, List.length_nil, ↓reduceIte]
    refine told_1 hs ?_
    obtain ⟨hg, h0⟩ := hl hs
    refine topC_c (by decide) (s_red (n := 5) (ng := ngL) (fun g ρ H' Z hg hz => ?_) rfl (fun a b H' Z X' hz => s_div rfl hz) (v := .lst r) hr hg h0 ((o.sm l (List.mem_of_getLast? hg)).mono (by decide)) (Nat.le_trans o.len (by decide)) ?_)
    · dsimp only [ngL, qE1, qE2, qE3, qE4, qE5, qE6, qE7, qE8, qE9, qE10, qE11, qE12, qE13, qE14, qE15, qE16, qE17, qE18, qE19, qE20, qE21, qE22]
      refine ifSome.mk hg ?_
      show Z (.int (0 - g)) H'
      rw [Int.zero_sub]; exact hz
    refine ifSome.mk (getApp _ _ _) ?_
    refine ⟨_, _, dat_peg (n := 2), dat_peg (row := redI row l) (n := 2), ?_⟩
    rw [eqv_peg]
    exact tail2 o.low
  · rw [decide_eq_false hs]
    exact tail2 o.low
theorem tail4 (o : Ok row p1 q1 p2 q2) (hl : stat row p1 q1 p2 q2 = 0 → row.getLast? = some l ∧ l ≠ 0) (hr : H[r]? = some (row.map .int)) :
    F t_law_4 [some (.lst 0), some (.lst r), some (.tup [.int p1, .int q1]), some (.tup [.int p2, .int q2]), o3, some (toldV row l p1 q1 p2 q2), none] H := by
  unfold F
  dsimp only [t_law_4, qS1, qS2, qS3, qS4, qS5, qS6, qS7, qS8, qS9, qS10, qS11, qS12, qS13, qS14, qS15, qS16, qS17, qS18, qE1, qE2, qE3, qE4, qE5, qE6, qE7, qE8, qE9, qE10, qE11, qE12, qE13, qE14, qE15, qE16, qE17, qE18, qE19, qE20, qE21, qE22, qEs1, qEs2, wpAll, qO1, qO2, qI1, qI2, qI3, w_add, w_addl, w_sub, w_mul, w_mull, w_fdiv, w_mod, w_pow, w_lt, w_le, w_gt, w_ge, w_eq, w_ne, w_eqt, w_eql, w_net, w_nel, w_isn, w_ist, w_isi, w_isl, w_abs, w_lent, w_lenl, w_intb, w_list, w_tuple, w_min, w_idxt0, w_idxt1, w_idxu0, w_idxu1, w_idxu2, w_idxl, w_slcl, w_slct, w_tb, w_ti, w_tn, w_tt, w_tl, w_itt, w_itl, w_bindT1, w_bindT2, w_srcl, w_srct, w_cut2, w_cut1, w_cut1', w_cut0, w_ty1, w_ty2, w_ty3, w_ty4, w_ty5, w_ty6, w_ty7, w_ty8, w_ty9, w_ty10, w_ty11, w_ty12, w_ty13, w_ty14, w_ty15, w_ty16, w_ty17, w_ty18, w_ty19, w_ty20, w_ty21, w_mapc, w_mapn, w_appc, w_appn, w_repc, w_repn, w_start, w_lenc, w_ifT, w_ifF, w_ifFF, w_ifTF, w_nT, w_nF, w_anyT, w_anyF, w_d22, ifSome_some, ifLst_lst, ifTup_tup, ifInt_int, lget, lset, lsets, Nat.reduceSub, Nat.reduceAdd, List.length_nil, ↓reduceIte]
  refine told_0 ?_
  dsimp only [w_eqs]
  refine word_eq ?_
  by_cases hs : stat row p1 q1 p2 q2 = 0
  · rw [decide_eq_true hs]
    dsimp only [qS1, qS2, qS3, qS4, qS5, qS6, qS7, qS8, qS9, qS10, qS11, qS12, qS13, qS14, qS15, qS16, qS17, qS18, qE1, qE2, qE3, qE4, qE5, qE6, qE7, qE8, qE9, qE10, qE11, qE12, qE13, qE14, qE15, qE16, qE17, qE18, qE19, qE20, qE21, qE22, qEs1, qEs2, wpAll, qO1, qO2, qI1, qI2, qI3, w_add, w_addl, w_sub, w_mul, w_mull, w_fdiv, w_mod, w_pow, w_lt, w_le, w_gt, w_ge, w_eq, w_ne, w_eqt, w_eql, w_net, w_nel, w_isn, w_ist, w_isi, w_isl, w_abs, w_lent, w_lenl, w_intb, w_list, w_tuple, w_min, w_idxt0, w_idxt1, w_idxu0, w_idxu1, w_idxu2, w_idxl, w_slcl, w_slct, w_tb, w_ti, w_tn, w_tt, w_tl, w_itt, w_itl, w_bindT1, w_bindT2, w_srcl, w_srct, w_cut2, w_cut1, w_cut1', w_cut0, w_ty1, w_ty2, w_ty3, w_ty4, w_ty5, w_ty6, w_ty7, w_ty8, w_ty9, w_ty10, w_ty11, w_ty12, w_ty13, w_ty14, w_ty15, w_ty16, w_ty17, w_ty18, w_ty19, w_ty20, w_ty21, w_mapc, w_mapn, w_appc, w_appn, w_repc, w_repn, w_start, w_lenc, w_ifT, w_ifF, w_ifFF, w_ifTF, w_nT, w_nF, w_anyT, w_anyF, w_d22, ifSome_some, ifLst_lst, ifTup_tup, ifInt_int, lget, lset, lsets, Nat.reduceSub, Nat.reduceAdd, List.length_nil, ↓reduceIte]
    refine told_1 hs ?_
    obtain ⟨hg, h0⟩ := hl hs
    refine topC_c (by decide) (s_ispeg (n := 2) rfl rfl rfl rfl rfl rfl rfl rfl rfl rfl (by decide) (peg_ok o hg h0 hs) fun H' hp => ?_)
    exact tail3 o hl (getKeep hp hr)
  · rw [decide_eq_false hs]
    exact tail3 o hl hr
theorem tail5 (o : Ok row p1 q1 p2 q2) (hr : H[r]? = some (row.map .int)) : F t_law_5 [some (.lst 0), some (.lst r), some (.tup [.int p1, .int q1]), some (.tup [.int p2, .int q2]), o3, o4, none] H := by
  have hl0 : stat row p1 q1 p2 q2 = 0 → row.getLast? = some (row.getLast?.getD 0) ∧ row.getLast?.getD 0 ≠ 0 := fun hs => by
    unfold stat at hs
    by_cases h1 : row.length < 2 ∨ row.getLast? = some 0
    · rw [if_pos h1] at hs; cases hs
    · cases hg : row.getLast? with
      | none => rw [List.getLast?_eq_none_iff] at hg; exact (h1 (.inl (by rw [hg]; decide))).elim
      | some x => exact ⟨rfl, fun h => h1 (.inr (by rw [hg]; exact congrArg some h))⟩
  revert hl0
  generalize row.getLast?.getD 0 = l
  intro hl
  unfold F
  dsimp only [t_law_5, qS1, qS2, qS3, qS4, qS5, qS6, qS7, qS8, qS9, qS10, qS11, qS12, qS13, qS14, qS15, qS16, qS17, qS18, qE1, qE2, qE3, qE4, qE5, qE6, qE7, qE8, qE9, qE10, qE11, qE12, qE13, qE14, qE15, qE16, qE17, qE18, qE19, qE20, qE21, qE22, qEs1, qEs2, wpAll, qO1, qO2, qI1, qI2, qI3, w_add, w_addl, w_sub, w_mul, w_mull, w_fdiv, w_mod, w_pow, w_lt, w_le, w_gt, w_ge, w_eq, w_ne, w_eqt, w_eql, w_net, w_nel, w_isn, w_ist, w_isi, w_isl, w_abs, w_lent, w_lenl, w_intb, w_list, w_tuple, w_min, w_idxt0, w_idxt1, w_idxu0, w_idxu1, w_idxu2, w_idxl, w_slcl, w_slct, w_tb, w_ti, w_tn, w_tt, w_tl, w_itt, w_itl, w_bindT1, w_bindT2, w_srcl, w_srct, w_cut2, w_cut1, w_cut1', w_cut0, w_ty1, w_ty2, w_ty3, w_ty4, w_ty5, w_ty6, w_ty7, w_ty8, w_ty9, w_ty10, w_ty11, w_ty12, w_ty13, w_ty14, w_ty15, w_ty16, w_ty17, w_ty18, w_ty19, w_ty20, w_ty21, w_mapc, w_mapn, w_appc, w_appn, w_repc, w_repn, w_start, w_lenc, w_ifT, w_ifF, w_ifFF, w_ifTF, w_nT, w_nF, w_anyT, w_anyF, w_d22, ifSome_some, ifLst_lst, ifTup_tup, ifInt_int, lget, lset, lsets, Nat.reduceSub, Nat.reduceAdd, List.length_nil, ↓reduceIte]
  refine ifSome.mk hr ?_
  refine topC_t (k := 27) (s_told o (fun hs => (hl hs).1) (v := .lst H.length) (getApp _ _ _) fun H1 hp1 => ?_)
  have hr1 : H1[r]? = some (row.map .int) := getKeep (preTrans (preApp _ _) hp1) hr
  have hh1 : H1[H.length]? = some (row.map .int) := getKeep hp1 (getApp _ _ _)
  refine told_0 ?_
  refine topC_c (by decide) (s_due (n := 2) o hr1 fun H2 hp2 => ?_)
  dsimp only [w_nes]
  refine ⟨_, _, dat_str (word_ok _), dat_str (word_ok _), ?_⟩
  rw [eqv_str]
  refine ⟨rfl, ?_⟩
  refine eqWp_ints (getKeep hp2 hh1) (getKeep hp2 hr1) ?_
  rw [decide_eq_true rfl]
  refine ⟨rfl, ?_⟩
  refine ifSome.mk (getKeep hp2 hr1) ?_
  refine topC_t (k := 27) (s_told o (fun hs => (hl hs).1) (v := .tup (row.map .int)) rfl fun H3 hp3 => ?_)
  refine told_same ?_
  exact ⟨rfl, tail4 o hl (getKeep hp3 (getKeep hp2 hr1))⟩
theorem tail6 (h0 : H[0]? = some (ns.map .int)) (hr : H[r]? = some (row.map .int)) (hlen : row.length ≤ 8) (hsm : AllSm 200 row) : F t_law_6 [some (.lst 0), some (.lst r), o1, o2, o3, o4, none] H := by
  unfold F
  dsimp only [t_law_6, qS1, qS2, qS3, qS4, qS5, qS6, qS7, qS8, qS9, qS10, qS11, qS12, qS13, qS14, qS15, qS16, qS17, qS18, qE1, qE2, qE3, qE4, qE5, qE6, qE7, qE8, qE9, qE10, qE11, qE12, qE13, qE14, qE15, qE16, qE17, qE18, qE19, qE20, qE21, qE22, qEs1, qEs2, wpAll, qO1, qO2, qI1, qI2, qI3, w_add, w_addl, w_sub, w_mul, w_mull, w_fdiv, w_mod, w_pow, w_lt, w_le, w_gt, w_ge, w_eq, w_ne, w_eqt, w_eql, w_net, w_nel, w_isn, w_ist, w_isi, w_isl, w_abs, w_lent, w_lenl, w_intb, w_list, w_tuple, w_min, w_idxt0, w_idxt1, w_idxu0, w_idxu1, w_idxu2, w_idxl, w_slcl, w_slct, w_tb, w_ti, w_tn, w_tt, w_tl, w_itt, w_itl, w_bindT1, w_bindT2, w_srcl, w_srct, w_cut2, w_cut1, w_cut1', w_cut0, w_ty1, w_ty2, w_ty3, w_ty4, w_ty5, w_ty6, w_ty7, w_ty8, w_ty9, w_ty10, w_ty11, w_ty12, w_ty13, w_ty14, w_ty15, w_ty16, w_ty17, w_ty18, w_ty19, w_ty20, w_ty21, w_mapc, w_mapn, w_appc, w_appn, w_repc, w_repn, w_start, w_lenc, w_ifT, w_ifF, w_ifFF, w_ifTF, w_nT, w_nF, w_anyT, w_anyF, w_d22, ifSome_some, ifLst_lst, ifTup_tup, ifInt_int, lget, lset, lsets, Nat.reduceSub, Nat.reduceAdd, List.length_nil, ↓reduceIte]
  refine topC_c (by decide) (s_cell rfl (by decide) h0 ?_)
  refine topC_c (by decide) (s_cell rfl (by decide) h0 ?_)
  refine topC_c (by decide) (s_end (n := 3) rfl rfl rfl fun p1 q1 a1 => ?_)
  refine topC_c (by decide) (s_cell rfl (by decide) h0 ?_)
  refine topC_c (by decide) (s_cell rfl (by decide) h0 ?_)
  refine topC_c (by decide) (s_end (n := 3) rfl rfl rfl fun p2 q2 a2 => ?_)
  refine topC_c (by decide) (s_cell rfl (by decide) h0 ⟨DivOk.sm (by decide) (by unfold Sm; decide), by decide, ?_⟩)
  dsimp only [qS1, qS2, qS3, qS4, qS5, qS6, qS7, qS8, qS9, qS10, qS11, qS12, qS13, qS14, qS15, qS16, qS17, qS18, qE1, qE2, qE3, qE4, qE5, qE6, qE7, qE8, qE9, qE10, qE11, qE12, qE13, qE14, qE15, qE16, qE17, qE18, qE19, qE20, qE21, qE22, qEs1, qEs2, wpAll, qO1, qO2, qI1, qI2, qI3, w_add, w_addl, w_sub, w_mul, w_mull, w_fdiv, w_mod, w_pow, w_lt, w_le, w_gt, w_ge, w_eq, w_ne, w_eqt, w_eql, w_net, w_nel, w_isn, w_ist, w_isi, w_isl, w_abs, w_lent, w_lenl, w_intb, w_list, w_tuple, w_min, w_idxt0, w_idxt1, w_idxu0, w_idxu1, w_idxu2, w_idxl, w_slcl, w_slct, w_tb, w_ti, w_tn, w_tt, w_tl, w_itt, w_itl, w_bindT1, w_bindT2, w_srcl, w_srct, w_cut2, w_cut1, w_cut1', w_cut0, w_ty1, w_ty2, w_ty3, w_ty4, w_ty5, w_ty6, w_ty7, w_ty8, w_ty9, w_ty10, w_ty11, w_ty12, w_ty13, w_ty14, w_ty15, w_ty16, w_ty17, w_ty18, w_ty19, w_ty20, w_ty21, w_mapc, w_mapn, w_appc, w_appn, w_repc, w_repn, w_start, w_lenc, w_ifT, w_ifF, w_ifFF, w_ifTF, w_nT, w_nF, w_anyT, w_anyF, w_d22, ifSome_some, ifLst_lst, ifTup_tup, ifInt_int, lget, lset, lsets, Nat.reduceSub, Nat.reduceAdd, List.length_nil, ↓reduceIte]
  have lowM : ∀ {k : Nat} {p q : Int}, Low k p q → k ≤ 200 → Low 200 p q := fun h hk => ⟨h.top.mono hk, h.bot.mono hk, h.pos, h.one⟩
  by_cases h : ((cellI ns (1 : Int).toNat).fdiv 4).fmod 2 = 1
  · rw [decide_eq_true h]
    dsimp only [qS1, qS2, qS3, qS4, qS5, qS6, qS7, qS8, qS9, qS10, qS11, qS12, qS13, qS14, qS15, qS16, qS17, qS18, qE1, qE2, qE3, qE4, qE5, qE6, qE7, qE8, qE9, qE10, qE11, qE12, qE13, qE14, qE15, qE16, qE17, qE18, qE19, qE20, qE21, qE22, qEs1, qEs2, wpAll, qO1, qO2, qI1, qI2, qI3, w_add, w_addl, w_sub, w_mul, w_mull, w_fdiv, w_mod, w_pow, w_lt, w_le, w_gt, w_ge, w_eq, w_ne, w_eqt, w_eql, w_net, w_nel, w_isn, w_ist, w_isi, w_isl, w_abs, w_lent, w_lenl, w_intb, w_list, w_tuple, w_min, w_idxt0, w_idxt1, w_idxu0, w_idxu1, w_idxu2, w_idxl, w_slcl, w_slct, w_tb, w_ti, w_tn, w_tt, w_tl, w_itt, w_itl, w_bindT1, w_bindT2, w_srcl, w_srct, w_cut2, w_cut1, w_cut1', w_cut0, w_ty1, w_ty2, w_ty3, w_ty4, w_ty5, w_ty6, w_ty7, w_ty8, w_ty9, w_ty10, w_ty11, w_ty12, w_ty13, w_ty14, w_ty15, w_ty16, w_ty17, w_ty18, w_ty19, w_ty20, w_ty21, w_mapc, w_mapn, w_appc, w_appn, w_repc, w_repn, w_start, w_lenc, w_ifT, w_ifF, w_ifFF, w_ifTF, w_nT, w_nF, w_anyT, w_anyF, w_d22, ifSome_some, ifLst_lst, ifTup_tup, ifInt_int, lget, lset, lsets, Nat.reduceSub, Nat.reduceAdd, List.length_nil, ↓reduceIte]
    refine ⟨IntMulOk.left (a1.top.mono (by decide)), IntMulOk.left (a1.bot.mono (by decide)), ?_⟩
    have hq : 0 < q1 * q2 := Int.mul_pos a1.pos a2.pos
    have hs : Sm 120 (q1 * q2) := a1.bot.mul a2.bot
    have hp : Sm 121 (p1 * q2 + q1) := Sm.add (a1.top.mul a2.bot) (a1.bot.mono (by decide))
    refine topC_c (by decide) (s_part (n := 4) rfl rfl hq (hs.mono (by decide)) fun x y e1 e2 => ?_)
    exact tail5 ⟨hlen, hsm, lowM a1 (by decide), lowM (low_of hp (hs.mono (by decide)) hq e1 e2) (by decide)⟩ hr
  · rw [decide_eq_false h]
    exact tail5 ⟨hlen, hsm, lowM a1 (by decide), lowM a2 (by decide)⟩ hr
end
theorem spec (ns : List Int) (h : ns.length ≤ 63) : F b_law (startLoc 1 7 [.lst 0]) [ns.map .int] := by
  unfold F
  dsimp only [b_law, qS1, qS2, qS3, qS4, qS5, qS6, qS7, qS8, qS9, qS10, qS11, qS12, qS13, qS14, qS15, qS16, qS17, qS18, qE1, qE2, qE3, qE4, qE5, qE6, qE7, qE8, qE9, qE10, qE11, qE12, qE13, qE14, qE15, qE16, qE17, qE18, qE19, qE20, qE21, qE22, qEs1, qEs2, wpAll, qO1, qO2, qI1, qI2, qI3, w_add, w_addl, w_sub, w_mul, w_mull, w_fdiv, w_mod, w_pow, w_lt, w_le, w_gt, w_ge, w_eq, w_ne, w_eqt, w_eql, w_net, w_nel, w_isn, w_ist, w_isi, w_isl, w_abs, w_lent, w_lenl, w_intb, w_list, w_tuple, w_min, w_idxt0, w_idxt1, w_idxu0, w_idxu1, w_idxu2, w_idxl, w_slcl, w_slct, w_tb, w_ti, w_tn, w_tt, w_tl, w_itt, w_itl, w_bindT1, w_bindT2, w_srcl, w_srct, w_cut2, w_cut1, w_cut1', w_cut0, w_ty1, w_ty2, w_ty3, w_ty4, w_ty5, w_ty6, w_ty7, w_ty8, w_ty9, w_ty10, w_ty11, w_ty12, w_ty13, w_ty14, w_ty15, w_ty16, w_ty17, w_ty18, w_ty19, w_ty20, w_ty21, w_mapc, w_mapn, w_appc, w_appn, w_repc, w_repn, w_start, w_lenc, w_ifT, w_ifF, w_ifFF, w_ifTF, w_nT, w_nF, w_anyT, w_anyF, w_d22, ifSome_some, ifLst_lst, ifTup_tup, ifInt_int, lget, lset, lsets, Nat.reduceSub, Nat.reduceAdd, List.length_nil, ↓reduceIte]
  refine topC_c (by decide) (s_cell rfl (ns := ns) (by decide) rfl ⟨by decide, ?_⟩)
  have g0 := Int.fmod_nonneg_of_pos (cellI ns (0 : Int).toNat) (b := 7) (by decide)
  have g1 := Int.fmod_lt_of_pos (cellI ns (0 : Int).toNat) (b := 7) (by decide)
  dsimp only [qS1, qS2, qS3, qS4, qS5, qS6, qS7, qS8, qS9, qS10, qS11, qS12, qS13, qS14, qS15, qS16, qS17, qS18, qE1, qE2, qE3, qE4, qE5, qE6, qE7, qE8, qE9, qE10, qE11, qE12, qE13, qE14, qE15, qE16, qE17, qE18, qE19, qE20, qE21, qE22, qEs1, qEs2, wpAll, qO1, qO2, qI1, qI2, qI3, w_add, w_addl, w_sub, w_mul, w_mull, w_fdiv, w_mod, w_pow, w_lt, w_le, w_gt, w_ge, w_eq, w_ne, w_eqt, w_eql, w_net, w_nel, w_isn, w_ist, w_isi, w_isl, w_abs, w_lent, w_lenl, w_intb, w_list, w_tuple, w_min, w_idxt0, w_idxt1, w_idxu0, w_idxu1, w_idxu2, w_idxl, w_slcl, w_slct, w_tb, w_ti, w_tn, w_tt, w_tl, w_itt, w_itl, w_bindT1, w_bindT2, w_srcl, w_srct, w_cut2, w_cut1, w_cut1', w_cut0, w_ty1, w_ty2, w_ty3, w_ty4, w_ty5, w_ty6, w_ty7, w_ty8, w_ty9, w_ty10, w_ty11, w_ty12, w_ty13, w_ty14, w_ty15, w_ty16, w_ty17, w_ty18, w_ty19, w_ty20, w_ty21, w_mapc, w_mapn, w_appc, w_appn, w_repc, w_repn, w_start, w_lenc, w_ifT, w_ifF, w_ifFF, w_ifTF, w_nT, w_nF, w_anyT, w_anyF, w_d22, ifSome_some, ifLst_lst, ifTup_tup, ifInt_int, lget, lset, lsets, Nat.reduceSub, Nat.reduceAdd, List.length_nil, ↓reduceIte]
  refine topC_c (by decide) (s_row rfl rfl (ns := ns) rfl h (by decide) g0 fun H1 xs hp hx ha hxl => ?_)
  have h0 : H1[0]? = some (ns.map .int) := getKeep hp rfl
  have hx6 : xs.length ≤ 6 := by omega
  refine topC_c (by decide) (s_cell rfl (ns := ns) (by decide) h0 ⟨DivOk.sm (by decide) (by unfold Sm; decide), by decide, ?_⟩)
  dsimp only [qS1, qS2, qS3, qS4, qS5, qS6, qS7, qS8, qS9, qS10, qS11, qS12, qS13, qS14, qS15, qS16, qS17, qS18, qE1, qE2, qE3, qE4, qE5, qE6, qE7, qE8, qE9, qE10, qE11, qE12, qE13, qE14, qE15, qE16, qE17, qE18, qE19, qE20, qE21, qE22, qEs1, qEs2, wpAll, qO1, qO2, qI1, qI2, qI3, w_add, w_addl, w_sub, w_mul, w_mull, w_fdiv, w_mod, w_pow, w_lt, w_le, w_gt, w_ge, w_eq, w_ne, w_eqt, w_eql, w_net, w_nel, w_isn, w_ist, w_isi, w_isl, w_abs, w_lent, w_lenl, w_intb, w_list, w_tuple, w_min, w_idxt0, w_idxt1, w_idxu0, w_idxu1, w_idxu2, w_idxl, w_slcl, w_slct, w_tb, w_ti, w_tn, w_tt, w_tl, w_itt, w_itl, w_bindT1, w_bindT2, w_srcl, w_srct, w_cut2, w_cut1, w_cut1', w_cut0, w_ty1, w_ty2, w_ty3, w_ty4, w_ty5, w_ty6, w_ty7, w_ty8, w_ty9, w_ty10, w_ty11, w_ty12, w_ty13, w_ty14, w_ty15, w_ty16, w_ty17, w_ty18, w_ty19, w_ty20, w_ty21, w_mapc, w_mapn, w_appc, w_appn, w_repc, w_repn, w_start, w_lenc, w_ifT, w_ifF, w_ifFF, w_ifTF, w_nT, w_nF, w_anyT, w_anyF, w_d22, ifSome_some, ifLst_lst, ifTup_tup, ifInt_int, lget, lset, lsets, Nat.reduceSub, Nat.reduceAdd, List.length_nil, ↓reduceIte]
  by_cases h1 : ((cellI ns (0 : Int).toNat).fdiv 7).fmod 2 = 1
  · rw [decide_eq_true h1]
    dsimp only [qS1, qS2, qS3, qS4, qS5, qS6, qS7, qS8, qS9, qS10, qS11, qS12, qS13, qS14, qS15, qS16, qS17, qS18, qE1, qE2, qE3, qE4, qE5, qE6, qE7, qE8, qE9, qE10, qE11, qE12, qE13, qE14, qE15, qE16, qE17, qE18, qE19, qE20, qE21, qE22, qEs1, qEs2, wpAll, qO1, qO2, qI1, qI2, qI3, w_add, w_addl, w_sub, w_mul, w_mull, w_fdiv, w_mod, w_pow, w_lt, w_le, w_gt, w_ge, w_eq, w_ne, w_eqt, w_eql, w_net, w_nel, w_isn, w_ist, w_isi, w_isl, w_abs, w_lent, w_lenl, w_intb, w_list, w_tuple, w_min, w_idxt0, w_idxt1, w_idxu0, w_idxu1, w_idxu2, w_idxl, w_slcl, w_slct, w_tb, w_ti, w_tn, w_tt, w_tl, w_itt, w_itl, w_bindT1, w_bindT2, w_srcl, w_srct, w_cut2, w_cut1, w_cut1', w_cut0, w_ty1, w_ty2, w_ty3, w_ty4, w_ty5, w_ty6, w_ty7, w_ty8, w_ty9, w_ty10, w_ty11, w_ty12, w_ty13, w_ty14, w_ty15, w_ty16, w_ty17, w_ty18, w_ty19, w_ty20, w_ty21, w_mapc, w_mapn, w_appc, w_appn, w_repc, w_repn, w_start, w_lenc, w_ifT, w_ifF, w_ifFF, w_ifTF, w_nT, w_nF, w_anyT, w_anyF, w_d22, ifSome_some, ifLst_lst, ifTup_tup, ifInt_int, lget, lset, lsets, Nat.reduceSub, Nat.reduceAdd, List.length_nil, ↓reduceIte]
    refine eqWp_ints (ds := []) (getKeep (preApp _ _) hx) (getApp _ _ _) ?_
    have h02 : (H1 ++ [[]])[0]? = some (ns.map .int) := getKeep (preApp _ _) h0
    by_cases h2 : xs = []
    · rw [decide_eq_true h2]
      exact tail6 h02 (getKeep (preApp _ _) hx) (Nat.le_trans hx6 (by decide)) (ha.mono (by decide))
    · rw [decide_eq_false h2]
      dsimp only [qS1, qS2, qS3, qS4, qS5, qS6, qS7, qS8, qS9, qS10, qS11, qS12, qS13, qS14, qS15, qS16, qS17, qS18, qE1, qE2, qE3, qE4, qE5, qE6, qE7, qE8, qE9, qE10, qE11, qE12, qE13, qE14, qE15, qE16, qE17, qE18, qE19, qE20, qE21, qE22, qEs1, qEs2, wpAll, qO1, qO2, qI1, qI2, qI3, w_add, w_addl, w_sub, w_mul, w_mull, w_fdiv, w_mod, w_pow, w_lt, w_le, w_gt, w_ge, w_eq, w_ne, w_eqt, w_eql, w_net, w_nel, w_isn, w_ist, w_isi, w_isl, w_abs, w_lent, w_lenl, w_intb, w_list, w_tuple, w_min, w_idxt0, w_idxt1, w_idxu0, w_idxu1, w_idxu2, w_idxl, w_slcl, w_slct, w_tb, w_ti, w_tn, w_tt, w_tl, w_itt, w_itl, w_bindT1, w_bindT2, w_srcl, w_srct, w_cut2, w_cut1, w_cut1', w_cut0, w_ty1, w_ty2, w_ty3, w_ty4, w_ty5, w_ty6, w_ty7, w_ty8, w_ty9, w_ty10, w_ty11, w_ty12, w_ty13, w_ty14, w_ty15, w_ty16, w_ty17, w_ty18, w_ty19, w_ty20, w_ty21, w_mapc, w_mapn, w_appc, w_appn, w_repc, w_repn, w_start, w_lenc, w_ifT, w_ifF, w_ifFF, w_ifTF, w_nT, w_nF, w_anyT, w_anyF, w_d22, ifSome_some, ifLst_lst, ifTup_tup, ifInt_int, lget, lset, lsets, Nat.reduceSub, Nat.reduceAdd, List.length_nil, ↓reduceIte]
      refine topC_c (by decide) (s_cell rfl (ns := ns) (by decide) h02 ⟨by decide, ?_⟩)
      dsimp only [qS1, qS2, qS3, qS4, qS5, qS6, qS7, qS8, qS9, qS10, qS11, qS12, qS13, qS14, qS15, qS16, qS17, qS18, qE1, qE2, qE3, qE4, qE5, qE6, qE7, qE8, qE9, qE10, qE11, qE12, qE13, qE14, qE15, qE16, qE17, qE18, qE19, qE20, qE21, qE22, qEs1, qEs2, wpAll, qO1, qO2, qI1, qI2, qI3, w_add, w_addl, w_sub, w_mul, w_mull, w_fdiv, w_mod, w_pow, w_lt, w_le, w_gt, w_ge, w_eq, w_ne, w_eqt, w_eql, w_net, w_nel, w_isn, w_ist, w_isi, w_isl, w_abs, w_lent, w_lenl, w_intb, w_list, w_tuple, w_min, w_idxt0, w_idxt1, w_idxu0, w_idxu1, w_idxu2, w_idxl, w_slcl, w_slct, w_tb, w_ti, w_tn, w_tt, w_tl, w_itt, w_itl, w_bindT1, w_bindT2, w_srcl, w_srct, w_cut2, w_cut1, w_cut1', w_cut0, w_ty1, w_ty2, w_ty3, w_ty4, w_ty5, w_ty6, w_ty7, w_ty8, w_ty9, w_ty10, w_ty11, w_ty12, w_ty13, w_ty14, w_ty15, w_ty16, w_ty17, w_ty18, w_ty19, w_ty20, w_ty21, w_mapc, w_mapn, w_appc, w_appn, w_repc, w_repn, w_start, w_lenc, w_ifT, w_ifF, w_ifFF, w_ifTF, w_nT, w_nF, w_anyT, w_anyF, w_d22, ifSome_some, ifLst_lst, ifTup_tup, ifInt_int, lget, lset, lsets, Nat.reduceSub, Nat.reduceAdd, List.length_nil, ↓reduceIte]
      refine topC_c (by decide) (s_cell rfl (ns := ns) (by decide) h02 ⟨by decide, ?_⟩)
      dsimp only [qS1, qS2, qS3, qS4, qS5, qS6, qS7, qS8, qS9, qS10, qS11, qS12, qS13, qS14, qS15, qS16, qS17, qS18, qE1, qE2, qE3, qE4, qE5, qE6, qE7, qE8, qE9, qE10, qE11, qE12, qE13, qE14, qE15, qE16, qE17, qE18, qE19, qE20, qE21, qE22, qEs1, qEs2, wpAll, qO1, qO2, qI1, qI2, qI3, w_add, w_addl, w_sub, w_mul, w_mull, w_fdiv, w_mod, w_pow, w_lt, w_le, w_gt, w_ge, w_eq, w_ne, w_eqt, w_eql, w_net, w_nel, w_isn, w_ist, w_isi, w_isl, w_abs, w_lent, w_lenl, w_intb, w_list, w_tuple, w_min, w_idxt0, w_idxt1, w_idxu0, w_idxu1, w_idxu2, w_idxl, w_slcl, w_slct, w_tb, w_ti, w_tn, w_tt, w_tl, w_itt, w_itl, w_bindT1, w_bindT2, w_srcl, w_srct, w_cut2, w_cut1, w_cut1', w_cut0, w_ty1, w_ty2, w_ty3, w_ty4, w_ty5, w_ty6, w_ty7, w_ty8, w_ty9, w_ty10, w_ty11, w_ty12, w_ty13, w_ty14, w_ty15, w_ty16, w_ty17, w_ty18, w_ty19, w_ty20, w_ty21, w_mapc, w_mapn, w_appc, w_appn, w_repc, w_repn, w_start, w_lenc, w_ifT, w_ifF, w_ifFF, w_ifTF, w_nT, w_nF, w_anyT, w_anyF, w_d22, ifSome_some, ifLst_lst, ifTup_tup, ifInt_int, lget, lset, lsets, Nat.reduceSub, Nat.reduceAdd, List.length_nil, ↓reduceIte]
      have sa : Sm 6 ((cellI ns (6 : Int).toNat).fmod 41 - 20) := fmod_sub_sm (by decide) (by decide) (by decide)
      have sb : Sm 6 (1 + (cellI ns (7 : Int).toNat).fmod 9) := Sm.add (Sm.one (k := 4)) (fmod_sm (by decide) (by decide))
      revert sa sb
      generalize (cellI ns (6 : Int).toNat).fmod 41 - 20 = a
      generalize 1 + (cellI ns (7 : Int).toNat).fmod 9 = b
      intro sa sb
      have hp2 : H1 <+: H1 ++ [[]] ++ [[V.int a, V.int b]] := preTrans (preApp _ _) (preApp _ _)
      refine topC_c (by decide) (s_by (n := 5) rfl (row := xs) (a := a) (b := b) (getKeep hp2 hx) (getApp _ _ _) (Nat.le_trans hx6 (by decide)) (fun x hx' => ⟨IntMulOk.right (Sm.mono sa (show 6 ≤ 64 by decide)), IntMulOk.right (Sm.mono sb (show 6 ≤ 64 by decide))⟩) fun H' k hp' _ hk => ?_)
      refine tail6 (row := mulG a b 0 xs) (getKeep hp' (getKeep hp2 h0)) hk ?_ (AllSm.mono (ha.mulG0 sa sb) (show 70 + 6 + 1 ≤ 200 by decide))
      rw [mulG_len]; omega
  · rw [decide_eq_false h1]
    exact tail6 h0 hx (Nat.le_trans hx6 (by decide)) (ha.mono (by decide))
end L05
end Mine

open PySem PyProof.Rows PySem.Calls PySem.W
set_option Elab.async false
set_option maxRecDepth 100000
set_option maxHeartbeats 8000000
set_option linter.unusedVariables false
namespace Mine
theorem boot_size (w : World) : ((boot_heap w.params).isNs mainGlobals, (boot_heap w.params).objs.size, (boot_heap w.params).nsMap mainGlobals "__annotations__") = (true, 11, some (.ref 6)) := by kernel_rfl
noncomputable def vw05 : Program := PySem.W.view PySem.Challenge.pw_uf020007_05 [1, 2, 3, 4, 5, 6, 8, 9, 10, 11, 13, 14, 16, 17, 18, 20, 21, 22, 24, 25, 26, 27, 28, 29, 30, 31, 32, 33, 34, 35, 36, 37, 38, 39, 40]
noncomputable def fdef05 (i : Nat) : Arguments × List Stmt × Scope := match PySem.Challenge.pw_uf020007_05.main.body[i]? with | some (.FunctionDef _ ps b _ _ _ sc _ _ _) => (ps, b, sc) | _ => default
noncomputable def k05_3_0 (P : Params) : List DictEntry := [{ hash := PyData.keyHash P (Str.ofString "__name__"), key := Value.str (Str.ofString "__name__") 165, val := Value.str (Str.ofString "law_uf020007_05") 400 }, { hash := PyData.keyHash P (Str.ofString "__doc__"), key := Value.str (Str.ofString "__doc__") 166, val := Value.none }, { hash := PyData.keyHash P (Str.ofString "__package__"), key := Value.str (Str.ofString "__package__") 167, val := Value.none }, { hash := PyData.keyHash P (Str.ofString "__loader__"), key := Value.str (Str.ofString "__loader__") 168, val := Value.builtin "__main__.__loader__#opaque" }, { hash := PyData.keyHash P (Str.ofString "__spec__"), key := Value.str (Str.ofString "__spec__") 169, val := Value.none }, { hash := PyData.keyHash P (Str.ofString "__annotations__"), key := Value.str (Str.ofString "__annotations__") 170, val := Value.ref 6 }, { hash := PyData.keyHash P (Str.ofString "__builtins__"), key := Value.str (Str.ofString "__builtins__") 171, val := Value.ref 4 }, { hash := PyData.keyHash P (Str.ofString "__file__"), key := Value.str (Str.ofString "__file__") 173, val := Value.str (Str.ofString "/claim/cut.py") 172 }]
noncomputable def k05_3_1 (P : Params) : List DictEntry := [{ hash := PyData.keyHash P (Str.ofString "__cached__"), key := Value.str (Str.ofString "__cached__") 174, val := Value.none }, { hash := PyData.keyHash P (Str.ofString "PegError"), key := Value.str (Str.ofString "PegError") 206, val := Value.ref 24 }, { hash := PyData.keyHash P (Str.ofString "NoPart"), key := Value.str (Str.ofString "NoPart") 222, val := Value.ref 37 }, { hash := PyData.keyHash P (Str.ofString "NoRow"), key := Value.str (Str.ofString "NoRow") 238, val := Value.ref 49 }, { hash := PyData.keyHash P (Str.ofString "NoStretch"), key := Value.str (Str.ofString "NoStretch") 254, val := Value.ref 61 }, { hash := PyData.keyHash P (Str.ofString "NotAlone"), key := Value.str (Str.ofString "NotAlone") 270, val := Value.ref 73 }, { hash := PyData.keyHash P (Str.ofString "NoQuotient"), key := Value.str (Str.ofString "NoQuotient") 286, val := Value.ref 85 }, { hash := PyData.keyHash P (Str.ofString "divisor"), key := Value.str (Str.ofString "divisor") 297, val := Value.ref 94 }]
noncomputable def k05_3_2 (P : Params) : List DictEntry := [{ hash := PyData.keyHash P (Str.ofString "part"), key := Value.str (Str.ofString "part") 306, val := Value.ref 101 }, { hash := PyData.keyHash P (Str.ofString "below"), key := Value.str (Str.ofString "below") 314, val := Value.ref 108 }, { hash := PyData.keyHash P (Str.ofString "part_sum"), key := Value.str (Str.ofString "part_sum") 322, val := Value.ref 115 }, { hash := PyData.keyHash P (Str.ofString "sign_at"), key := Value.str (Str.ofString "sign_at") 335, val := Value.ref 122 }, { hash := PyData.keyHash P (Str.ofString "reduced"), key := Value.str (Str.ofString "reduced") 341, val := Value.ref 127 }, { hash := PyData.keyHash P (Str.ofString "multiplied"), key := Value.str (Str.ofString "multiplied") 354, val := Value.ref 134 }, { hash := PyData.keyHash P (Str.ofString "seen"), key := Value.str (Str.ofString "seen") 360, val := Value.ref 139 }, { hash := PyData.keyHash P (Str.ofString "turns"), key := Value.str (Str.ofString "turns") 372, val := Value.ref 146 }]
noncomputable def k05_3_3 (P : Params) : List DictEntry := [{ hash := PyData.keyHash P (Str.ofString "is_alone"), key := Value.str (Str.ofString "is_alone") 383, val := Value.ref 153 }, { hash := PyData.keyHash P (Str.ofString "peg"), key := Value.str (Str.ofString "peg") 392, val := Value.ref 160 }, { hash := PyData.keyHash P (Str.ofString "of_part"), key := Value.str (Str.ofString "of_part") 399, val := Value.ref 167 }, { hash := PyData.keyHash P (Str.ofString "_law_whole"), key := Value.str (Str.ofString "_law_whole") 408, val := Value.ref 174 }, { hash := PyData.keyHash P (Str.ofString "_law_cell_at"), key := Value.str (Str.ofString "_law_cell_at") 416, val := Value.ref 181 }, { hash := PyData.keyHash P (Str.ofString "_law_divisor"), key := Value.str (Str.ofString "_law_divisor") 425, val := Value.ref 188 }, { hash := PyData.keyHash P (Str.ofString "_law_part"), key := Value.str (Str.ofString "_law_part") 434, val := Value.ref 195 }, { hash := PyData.keyHash P (Str.ofString "_law_smallest"), key := Value.str (Str.ofString "_law_smallest") 440, val := Value.ref 200 }]
noncomputable def k05_3_4 (P : Params) : List DictEntry := [{ hash := PyData.keyHash P (Str.ofString "_law_value"), key := Value.str (Str.ofString "_law_value") 451, val := Value.ref 207 }, { hash := PyData.keyHash P (Str.ofString "_law_by"), key := Value.str (Str.ofString "_law_by") 457, val := Value.ref 212 }, { hash := PyData.keyHash P (Str.ofString "_law_seen"), key := Value.str (Str.ofString "_law_seen") 463, val := Value.ref 217 }, { hash := PyData.keyHash P (Str.ofString "_law_turns"), key := Value.str (Str.ofString "_law_turns") 475, val := Value.ref 224 }, { hash := PyData.keyHash P (Str.ofString "_law_is_part"), key := Value.str (Str.ofString "_law_is_part") 482, val := Value.ref 231 }, { hash := PyData.keyHash P (Str.ofString "_law_is_peg"), key := Value.str (Str.ofString "_law_is_peg") 488, val := Value.ref 236 }, { hash := PyData.keyHash P (Str.ofString "_law_row"), key := Value.str (Str.ofString "_law_row") 499, val := Value.ref 243 }, { hash := PyData.keyHash P (Str.ofString "_law_end"), key := Value.str (Str.ofString "_law_end") 507, val := Value.ref 250 }]
noncomputable def k05_3_5 (P : Params) : List DictEntry := [{ hash := PyData.keyHash P (Str.ofString "_law_due"), key := Value.str (Str.ofString "_law_due") 516, val := Value.ref 257 }, { hash := PyData.keyHash P (Str.ofString "_law_word"), key := Value.str (Str.ofString "_law_word") 524, val := Value.ref 264 }, { hash := PyData.keyHash P (Str.ofString "_law_told"), key := Value.str (Str.ofString "_law_told") 535, val := Value.ref 271 }, { hash := PyData.keyHash P (Str.ofString "law"), key := Value.str (Str.ofString "law") 548, val := Value.ref 278 }]
noncomputable def k05_3 (P : Params) : Obj := { cls := Value.type "dict", data := Data.dict ⟨k05_3_0 P ++ (k05_3_1 P ++ (k05_3_2 P ++ (k05_3_3 P ++ (k05_3_4 P ++ (k05_3_5 P)))))⟩ 44 }
noncomputable def k05_23 (P : Params) : Obj := { cls := Value.type "dict", data := Data.dict #[{ hash := PyData.keyHash P (Str.ofString "__module__"), key := Value.str (Str.ofString "__module__") 196, val := Value.str (Str.ofString "rootpeg.errors") 187 }, { hash := PyData.keyHash P (Str.ofString "__firstlineno__"), key := Value.str (Str.ofString "__firstlineno__") 200, val := Value.int 2 199 }, { hash := PyData.keyHash P (Str.ofString "__static_attributes__"), key := Value.str (Str.ofString "__static_attributes__") 201, val := Value.ref 22 }, { hash := PyData.keyHash P (Str.ofString "__weakref__"), key := Value.str (Str.ofString "__weakref__") 203, val := Value.ref 25 }, { hash := PyData.keyHash P (Str.ofString "__doc__"), key := Value.str (Str.ofString "__doc__") 204, val := Value.none }] 3 }
noncomputable def k05_24 (P : Params) : Obj := { cls := Value.type "type", data := Data.cls { name := Str.ofString "PegError", bases := [Value.type "ValueError"], mro := [Value.ref 24, Value.type "ValueError", Value.type "Exception", Value.type "BaseException", Value.type "object"], ns := 23, qualname := Str.ofString "PegError", subclasses := [Value.ref 37, Value.ref 49, Value.ref 61, Value.ref 73, Value.ref 85] }, slots := #[some (Value.ref 15), none, some (Value.str (Str.ofString "PegError") 189), some (Value.str (Str.ofString "PegError") 197), some (Value.builtin "ValueError.__new__"), some (Value.bool true)] }
noncomputable def k05_36 (P : Params) : Obj := { cls := Value.type "dict", data := Data.dict #[{ hash := PyData.keyHash P (Str.ofString "__module__"), key := Value.str (Str.ofString "__module__") 214, val := Value.str (Str.ofString "rootpeg.errors") 187 }, { hash := PyData.keyHash P (Str.ofString "__firstlineno__"), key := Value.str (Str.ofString "__firstlineno__") 218, val := Value.int 4 217 }, { hash := PyData.keyHash P (Str.ofString "__static_attributes__"), key := Value.str (Str.ofString "__static_attributes__") 219, val := Value.ref 35 }, { hash := PyData.keyHash P (Str.ofString "__doc__"), key := Value.str (Str.ofString "__doc__") 220, val := Value.none }] 2 }
noncomputable def k05_37 (P : Params) : Obj := { cls := Value.type "type", data := Data.cls { name := Str.ofString "NoPart", bases := [Value.ref 24], mro := [Value.ref 37, Value.ref 24, Value.type "ValueError", Value.type "Exception", Value.type "BaseException", Value.type "object"], ns := 36, qualname := Str.ofString "NoPart" }, slots := #[some (Value.ref 28), none, some (Value.str (Str.ofString "NoPart") 207), some (Value.str (Str.ofString "NoPart") 215), some (Value.builtin "ValueError.__new__"), some (Value.bool true)] }
noncomputable def k05_48 (P : Params) : Obj := { cls := Value.type "dict", data := Data.dict #[{ hash := PyData.keyHash P (Str.ofString "__module__"), key := Value.str (Str.ofString "__module__") 230, val := Value.str (Str.ofString "rootpeg.errors") 187 }, { hash := PyData.keyHash P (Str.ofString "__firstlineno__"), key := Value.str (Str.ofString "__firstlineno__") 234, val := Value.int 6 233 }, { hash := PyData.keyHash P (Str.ofString "__static_attributes__"), key := Value.str (Str.ofString "__static_attributes__") 235, val := Value.ref 47 }, { hash := PyData.keyHash P (Str.ofString "__doc__"), key := Value.str (Str.ofString "__doc__") 236, val := Value.none }] 2 }
noncomputable def k05_49 (P : Params) : Obj := { cls := Value.type "type", data := Data.cls { name := Str.ofString "NoRow", bases := [Value.ref 24], mro := [Value.ref 49, Value.ref 24, Value.type "ValueError", Value.type "Exception", Value.type "BaseException", Value.type "object"], ns := 48, qualname := Str.ofString "NoRow" }, slots := #[some (Value.ref 40), none, some (Value.str (Str.ofString "NoRow") 223), some (Value.str (Str.ofString "NoRow") 231), some (Value.builtin "ValueError.__new__"), some (Value.bool true)] }
noncomputable def k05_60 (P : Params) : Obj := { cls := Value.type "dict", data := Data.dict #[{ hash := PyData.keyHash P (Str.ofString "__module__"), key := Value.str (Str.ofString "__module__") 246, val := Value.str (Str.ofString "rootpeg.errors") 187 }, { hash := PyData.keyHash P (Str.ofString "__firstlineno__"), key := Value.str (Str.ofString "__firstlineno__") 250, val := Value.int 8 249 }, { hash := PyData.keyHash P (Str.ofString "__static_attributes__"), key := Value.str (Str.ofString "__static_attributes__") 251, val := Value.ref 59 }, { hash := PyData.keyHash P (Str.ofString "__doc__"), key := Value.str (Str.ofString "__doc__") 252, val := Value.none }] 2 }
noncomputable def k05_61 (P : Params) : Obj := { cls := Value.type "type", data := Data.cls { name := Str.ofString "NoStretch", bases := [Value.ref 24], mro := [Value.ref 61, Value.ref 24, Value.type "ValueError", Value.type "Exception", Value.type "BaseException", Value.type "object"], ns := 60, qualname := Str.ofString "NoStretch" }, slots := #[some (Value.ref 52), none, some (Value.str (Str.ofString "NoStretch") 239), some (Value.str (Str.ofString "NoStretch") 247), some (Value.builtin "ValueError.__new__"), some (Value.bool true)] }
noncomputable def k05_72 (P : Params) : Obj := { cls := Value.type "dict", data := Data.dict #[{ hash := PyData.keyHash P (Str.ofString "__module__"), key := Value.str (Str.ofString "__module__") 262, val := Value.str (Str.ofString "rootpeg.errors") 187 }, { hash := PyData.keyHash P (Str.ofString "__firstlineno__"), key := Value.str (Str.ofString "__firstlineno__") 266, val := Value.int 10 265 }, { hash := PyData.keyHash P (Str.ofString "__static_attributes__"), key := Value.str (Str.ofString "__static_attributes__") 267, val := Value.ref 71 }, { hash := PyData.keyHash P (Str.ofString "__doc__"), key := Value.str (Str.ofString "__doc__") 268, val := Value.none }] 2 }
noncomputable def k05_73 (P : Params) : Obj := { cls := Value.type "type", data := Data.cls { name := Str.ofString "NotAlone", bases := [Value.ref 24], mro := [Value.ref 73, Value.ref 24, Value.type "ValueError", Value.type "Exception", Value.type "BaseException", Value.type "object"], ns := 72, qualname := Str.ofString "NotAlone" }, slots := #[some (Value.ref 64), none, some (Value.str (Str.ofString "NotAlone") 255), some (Value.str (Str.ofString "NotAlone") 263), some (Value.builtin "ValueError.__new__"), some (Value.bool true)] }
noncomputable def k05_84 (P : Params) : Obj := { cls := Value.type "dict", data := Data.dict #[{ hash := PyData.keyHash P (Str.ofString "__module__"), key := Value.str (Str.ofString "__module__") 278, val := Value.str (Str.ofString "rootpeg.errors") 187 }, { hash := PyData.keyHash P (Str.ofString "__firstlineno__"), key := Value.str (Str.ofString "__firstlineno__") 282, val := Value.int 12 281 }, { hash := PyData.keyHash P (Str.ofString "__static_attributes__"), key := Value.str (Str.ofString "__static_attributes__") 283, val := Value.ref 83 }, { hash := PyData.keyHash P (Str.ofString "__doc__"), key := Value.str (Str.ofString "__doc__") 284, val := Value.none }] 2 }
noncomputable def k05_85 (P : Params) : Obj := { cls := Value.type "type", data := Data.cls { name := Str.ofString "NoQuotient", bases := [Value.ref 24], mro := [Value.ref 85, Value.ref 24, Value.type "ValueError", Value.type "Exception", Value.type "BaseException", Value.type "object"], ns := 84, qualname := Str.ofString "NoQuotient" }, slots := #[some (Value.ref 76), none, some (Value.str (Str.ofString "NoQuotient") 271), some (Value.str (Str.ofString "NoQuotient") 279), some (Value.builtin "ValueError.__new__"), some (Value.bool true)] }
noncomputable def k05_159 (P : Params) : Obj := { cls := Value.type "code", data := Data.fields #[Value.str (Str.ofString "peg") 384, Value.str (Str.ofString "peg") 385, Value.str (Str.ofString "/claim/cut.py") 386, Value.int 81 0, Value.int 3 0, Value.int 0 0, Value.int 0 0, Value.int 3 0, Value.ref 154, Value.bool true, Value.int 181 0, Value.ref 155, Value.none, Value.ref 156, Value.ref 157, Value.ref 158, Value.int 390 0, Value.int 81 0, Value.str (Str.ofString "/claim/cut.py") 391] }
noncomputable def k05_160 (P : Params) : Obj := (fun (p : Arguments) (b : List Stmt) (s : Scope) (_ : fdef05 21 = (p, b, s)) => ({ cls := Value.type "function", data := Data.func { name := Str.ofString "peg", qualname := Str.ofString "peg", params := p, body := .stmts b, scope := s, globals := 3, closure := [], defaults := Value.none, kwdefaults := Value.none, pyModule := Value.str (Str.ofString "rootpeg.pegs") 373, code := Value.ref 159 } } : Obj)) _ _ _ rfl
noncomputable def k05_263 (P : Params) : Obj := { cls := Value.type "code", data := Data.fields #[Value.str (Str.ofString "_law_word") 517, Value.str (Str.ofString "_law_word") 518, Value.str (Str.ofString "/claim/cut.py") 519, Value.int 186 0, Value.int 1 0, Value.int 0 0, Value.int 0 0, Value.int 3 0, Value.ref 258, Value.bool true, Value.int 181 0, Value.ref 259, Value.none, Value.ref 260, Value.ref 261, Value.ref 262, Value.int 522 0, Value.int 186 0, Value.str (Str.ofString "/claim/cut.py") 523] }
noncomputable def k05_264 (P : Params) : Obj := (fun (p : Arguments) (b : List Stmt) (s : Scope) (_ : fdef05 38 = (p, b, s)) => ({ cls := Value.type "function", data := Data.func { name := Str.ofString "_law_word", qualname := Str.ofString "_law_word", params := p, body := .stmts b, scope := s, globals := 3, closure := [], defaults := Value.none, kwdefaults := Value.none, pyModule := Value.str (Str.ofString "law_uf020007_05") 400, code := Value.ref 263 } } : Obj)) _ _ _ rfl
noncomputable def k05_270 (P : Params) : Obj := { cls := Value.type "code", data := Data.fields #[Value.str (Str.ofString "_law_told") 525, Value.str (Str.ofString "_law_told") 526, Value.str (Str.ofString "/claim/cut.py") 527, Value.int 192 0, Value.int 3 0, Value.int 0 0, Value.int 0 0, Value.int 3 0, Value.ref 265, Value.bool true, Value.int 181 0, Value.ref 266, Value.none, Value.ref 267, Value.ref 268, Value.ref 269, Value.int 533 0, Value.int 192 0, Value.str (Str.ofString "/claim/cut.py") 534] }
noncomputable def k05_271 (P : Params) : Obj := (fun (p : Arguments) (b : List Stmt) (s : Scope) (_ : fdef05 39 = (p, b, s)) => ({ cls := Value.type "function", data := Data.func { name := Str.ofString "_law_told", qualname := Str.ofString "_law_told", params := p, body := .stmts b, scope := s, globals := 3, closure := [], defaults := Value.none, kwdefaults := Value.none, pyModule := Value.str (Str.ofString "law_uf020007_05") 400, code := Value.ref 270 } } : Obj)) _ _ _ rfl
noncomputable def K05 : Params → Frag := fun P => [(nat_lit 3, k05_3 P), (nat_lit 23, k05_23 P), (nat_lit 24, k05_24 P), (nat_lit 36, k05_36 P), (nat_lit 37, k05_37 P), (nat_lit 48, k05_48 P), (nat_lit 49, k05_49 P), (nat_lit 60, k05_60 P), (nat_lit 61, k05_61 P), (nat_lit 72, k05_72 P), (nat_lit 73, k05_73 P), (nat_lit 84, k05_84 P), (nat_lit 85, k05_85 P), (nat_lit 159, k05_159 P), (nat_lit 160, k05_160 P), (nat_lit 263, k05_263 P), (nat_lit 264, k05_264 P), (nat_lit 270, k05_270 P), (nat_lit 271, k05_271 P)]
noncomputable def as05 : List Addr := [3, 23, 24, 36, 37, 48, 49, 60, 61, 72, 73, 84, 85, 159, 160, 263, 264, 270, 271]
noncomputable def E05 (w : World) (os : OsState) := endsT PySem.Challenge.pw_uf020007_05 vw05 [] (fun s => xlAt vw05 [] s && recOk (RowW.records PySem.Challenge.rw_uf020007_05.row.toRowW) s) (fun s => as05.map s.heap.get?) 11 (some (.ref 6)) 4500 w os
noncomputable def G05 (w : World) := some (true, openGood vw05 [], (K05 w.params).map fun p => some p.2)
theorem run05 (w : World) (os : OsState) : E05 w os = G05 w := by kernel_rfl
theorem left05 : LeftO PySem.Challenge.pw_uf020007_05 vw05 [] (fun s => xlAt vw05 [] s && recOk (RowW.records PySem.Challenge.rw_uf020007_05.row.toRowW) s) (fun s => as05.map s.heap.get?) (fun w => (K05 w.params).map fun p => some p.2) 4500 :=
  leftO_of (by kernel_rfl) (by kernel_rfl) (fun s => by kernel_rfl) boot_size run05
end Mine
local macro_rules | `(tactic| walk_at "call builtin:isinstance") => `(tactic| (k_here; (with_reducible show wpAny _ _ (call _ [Value.ref _, Value.ref _]) _ _ _); k_dflt (refine' kia_tup (Mine.kitx_exc ?k5 ?k6 ?k7 ?k8 ?k9) ?X ?I ?p ?ee ?nb ?_; (case p => kit_tp); (case X => k_in); (case I => exact Mine.excAt_N (by k_asm) (by k_mem) (by assumption)); (case ee => kit_is); (case nb => kit_nb); (case k5 => k_is); (case k6 => k_is); (case k7 => k_is); (case k8 => k_is); (case k9 => k_is); k_whole; intro _)))
local macro_rules | `(tactic| walk_at "call builtin:isinstance") => `(tactic| (k_here; (with_reducible show wpAny _ _ (call _ [Value.ref _, _]) _ _ _); k_dflt (refine' kia_one (Mine.kitx_exc ?k5 ?k6 ?k7 ?k8 ?k9) ?X ?I ?ee ?nb ?_; (case X => k_in); (case I => exact Mine.excAt_N (by k_asm) (by k_mem) (by assumption)); (case ee => kit_is); (case nb => kit_nb); (case k5 => k_is); (case k6 => k_is); (case k7 => k_is); (case k8 => k_is); (case k9 => k_is); k_whole; intro _)))
local macro_rules | `(tactic| walk_at "binaryOp Mult") => `(tactic| (k_here; (with_reducible show wpAny _ _ (binaryOp _ (Value.ref _) (Value.int _ _)) _ _ _); k_dflt (first | (refine' Mine.mulT_K ?F ?N ?D ?e ?_; (case F => k_asm); (case N => k_asm); (case D => k_mem); (case e => decide); k_whole) | (refine' Mine.mulF_K ?F ?N ?D ?e ?_; (case F => k_asm); (case N => k_asm); (case D => k_mem); (case e => decide); k_whole)); intro l' h' F' N' l1; (try k_lt l1); (try k_sweep)))
local macro_rules | `(tactic| walk_at "binaryOp Add") => `(tactic| (k_here; (with_reducible show wpAny _ _ (binaryOp _ (Value.ref _) (Value.ref _)) _ _ _); k_dflt (refine' Mine.addL_K ?F ?N ?D ?D2 ?e ?_; (case F => k_asm); (case N => k_asm); (case D => k_mem); (case D2 => k_mem); (case e => exact Nat.le_of_ble_eq_true rfl); k_whole); intro l' h' F' N' l1; (try k_lt l1); (try k_sweep)))
namespace Mine
noncomputable def L05.lawDef : DefT := match ((recsOf Mine.vw05).map toDef)[28]? with | some d => d | none => ⟨default, default, [], default⟩
noncomputable def L05.gc : GC := ⟨L05.fnNames, L05.clsNames, []⟩
theorem L05.chk : chkAll L05.gc ((recsOf vw05).map toDef) L05.fnTab L05.varTab = true := by decide +kernel
theorem L05.nocell (d : DefT) (hd : ((recsOf vw05).map toDef)[10]? = some d) : (d.scope.names.all fun x => !(x.2 == NameKind.cell)) = true := by
  have h0 : (((recsOf vw05).map toDef)[10]?.all fun d => d.scope.names.all fun x => !(x.2 == NameKind.cell)) = true := by decide +kernel
  rw [hd] at h0
  exact h0
end Mine
theorem PySem.Challenge.cw_uf020007_05_holds : PySem.Challenge.rw_uf020007_05.Holds := by
  w_on
  o_law
  refine holds_open (q := Mine.vw05) (loose := []) (XP := XL Mine.vw05 []) (YP := InK Mine.K05) (N := 4500) Mine.left05 (InK.of (fun _ => by kernel_rfl)) InK.keeps (fun s e => xl_of s (Bool.and_eq_true_iff.mp e).1) XL.keeps (by rfl) (by rfl) (by rfl) (fun s e => recFacts_of (Bool.and_eq_true_iff.mp e).2) (by rfl) (by first | assumption | decide +kernel) (by decide +kernel) ⟨rfl, rfl, rfl, rfl, rfl, by decide +kernel⟩ ?hw ?hc
  case hw => w_witness2
  k_fill
  intro w s₀ s₁ mg mb G Y fa o pm cd doc dV kV ho hd hcd hD hmg hg args vals as hpre hlay hrd hwl hlo
  have KX : (Mine.K05 w.params).In s₁.heap := Y
  refine Ground.open G ?_
  intro T B D TE TW
  have GF1 := Mine.gf_plain (gc := Mine.L05.gc) T (by decide +kernel) rfl (by decide +kernel)
  have m10 := mg_of KX T.g (show nsIn (Mine.K05 w.params) mainGlobals (Str.ofString "peg") = some (some (.ref 160)) by k_is)
  have m27 := mg_of KX T.g (show nsIn (Mine.K05 w.params) mainGlobals (Str.ofString "_law_told") = some (some (.ref 271)) by k_is)
  have c2 := mg_of KX T.g (show nsIn (Mine.K05 w.params) mainGlobals (Str.ofString "NoRow") = some (some (.ref 49)) by k_is)
  have c3 := mg_of KX T.g (show nsIn (Mine.K05 w.params) mainGlobals (Str.ofString "NoStretch") = some (some (.ref 61)) by k_is)
  have c4 := mg_of KX T.g (show nsIn (Mine.K05 w.params) mainGlobals (Str.ofString "NotAlone") = some (some (.ref 73)) by k_is)
  have fa10 : Mine.fnAddr mg Mine.L05.fnNames 10 = 160 := by
    show (match mg (Str.ofString "peg") with | some (.ref a) => a | _ => 0) = 160
    rw [m10]
  have fa27 : Mine.fnAddr mg Mine.L05.fnNames 27 = 271 := by
    show (match mg (Str.ofString "_law_told") with | some (.ref a) => a | _ => 0) = 271
    rw [m27]
  obtain ⟨hP, hdefs⟩ := Mine.defs_of Mine.L05.chk
  have key : ∀ (s : Shared) (α : List Addr) (vals : List Value) (vs : List Mine.V) (H : Mine.Hp) (Q : Mine.V → Mine.Hp → Prop) (E : Value → Shared → Prop) (m : Str → Option Value) (news : List (Addr × Obj)) (Z : Value → Shared → Prop) (fb : Addr) (cd : Value), Mine.L05.Psi 27 vs H Q →
      Fr s₁.heap s₁.heap.objs.size s.heap m → News s₁.heap s₁.heap.objs.size s.heap news → (∀ b o, s.heap.get? b = some o → s₁.heap.get? b = none → b ≠ s₁.heap.objs.size → (b, o) ∈ news) →
      Mine.HR ⟨mg, mb, Mine.fnAddr mg Mine.L05.fnNames, fun _ => .none⟩ α s.heap H → Mine.Reps ⟨mg, mb, Mine.fnAddr mg Mine.L05.fnNames, fun _ => .none⟩ α s.heap vals vs →
      (∀ (v : Value) (d : Mine.V) (h' : Heap) (tk : Nat) (news' : List (Addr × Obj)) (β : List Addr) (K : Mine.Hp), Fr s₁.heap s₁.heap.objs.size h' m → News s₁.heap s₁.heap.objs.size h' news' → (∀ q ∈ news, q ∈ news') → (∀ b ∈ β, s.heap.get? b = none) →
        Mine.HR ⟨mg, mb, Mine.fnAddr mg Mine.L05.fnNames, fun _ => .none⟩ (α ++ β) h' (H ++ K) → Mine.Rep ⟨mg, mb, Mine.fnAddr mg Mine.L05.fnNames, fun _ => .none⟩ (α ++ β) h' v d → Q d (H ++ K) → Z v { s with heap := h', toks := tk }) →
      wpAny (model rw_uf020007_05.row.prog w) (callerA.deeper (envOf (Str.ofString "law") Mine.L05.lawDef.scope s₁.heap.objs.size fb cd)) (call (.ref 271) vals) Z E s := by
    intro s α vals vs H Q E m news Z fb cd hpsi F N full hR hr hZ
    obtain ⟨_, hlen, hw⟩ := hpsi
    obtain ⟨v1, v2, v3, rfl⟩ := Mine.reps3 hr hlen
    have K0 := below_caller s₁.heap
    obtain ⟨_, _, M⟩ := bmod_of_top T
    clear ho hd hcd hD hmg hpre hlay hrd hwl hlo B D TE TW
    have F0 := F
    have N0 := N
    w_top on
    have hD : KtsDicts (([] : List Env).filterMap (·.frame)) s₁.heap := ktsDicts_nil
    refine wpAny_call ?_
    k_dflt (refine' code_defS0 ?k1 ?k2 ?k3 ?k4 ?k5 ?kA ?k6 ?k7 ?k8 ?k9 ?kB ?_ ?cK ?c2 ?c3 ?c4 ?c5; (case kA => exact rfl); (case k2 => k_asm); (case k1 => k_asm); (case k3 => k_asm); (case k4 => k_asm); (case k5 => k_asm); (case k6 => k_is); (case k7 => k_is); (case k8 => k_room); (case k9 => first | exact binds_K (by k_in) rfl (by k_is) rfl rfl rfl | exact BindsTo.of_eq rfl | fail "kts_go: no rule for these arguments"); (case kB => exact locs rfl); (case cK => exact rfl); (case c2 => exact rfl); (case c3 => exact rfl); (case c4 => exact rfl); (case c5 => decide); k_whole; intro g' L' h' FG' F' N' B' X' T' D'; (try dsimp only); (try k_lift B'); (try k_fold))
    iterate 15 (first | (k_unfold; (try dsimp only)) | walk1 | (dsimp only; walk1))
    refine ⟨Frag.In.keeps X' F'.keep, ?_⟩
    have led : ∀ q ∈ news, h'.get? q.1 = some q.2 := fun q hq => (N' q hq).1
    have kB := Mine.keepsB_led F0 full (fun b o e => F'.keep b o (FG'.keep b o e)) led
    have hR' := kB.hr hR
    have hr' := Mine.Reps.mono (fun _ _ e => e) kB.tup hr
    have KB := B'.push F' (name := Str.ofString "_law_told") (a := 271) (cd := Value.ref 270) (scope := (Mine.fdef05 39).2.2)
    have TT := T'.keeps F'.keep
    have GFh := GF1.keeps (fun b o e => F'.keep b o (FG'.keep b o e))
    have hroom : ∀ e1 e2, Mine.Room ((callerA.deeper e1).deeper e2) 6 := fun e1 e2 => ((Mine.callerRoom (n := 8) (by decide)).down).down
    have e160 : (Value.ref 160) = .ref (Mine.fnAddr mg Mine.L05.fnNames 10) := by rw [fa10]
    refine wpAny_call ?_
    rw [e160]
    refine codeAny_mono (Mine.call_raise (prog := rw_uf020007_05.row.prog) (w := w) (G := ⟨mg, mb, Mine.fnAddr mg Mine.L05.fnNames, fun _ => .none⟩) (gc := Mine.L05.gc) (DT := (recsOf Mine.vw05).map Mine.toDef) (P := Mine.L05.fnTab) (sub := Mine.L05.nosub) (n := 5) (Φ := Mine.callN Mine.L05.nosub Mine.L05.fnTab 5) (f := 10) (vs := vs) (H := H)
      (Q := fun v H' => Q (.tup [.str (Str.ofString ""), v]) H') (Y := fun c H' => (c = 2 ∨ c = 3 ∨ c = 4) ∧ Q (.tup [.str (Mine.L05.wordOf c), .none]) H) (fd := ⟨3, 3, Mine.L05.b_peg⟩) (hroom _ _) hdefs
      (fun env => (Mine.scall_callN (by rw [hP]; rfl) (by decide) hdefs 5 _ (hroom _ _).down).wp) (Mine.callN_no (by decide) 5) rfl rfl hlen hw α [v1, v2, v3] ?EE GFh hR' hr' KB TT Mine.L05.nocell ?hS ?hX) (fun r s' p => ?_)
    rotate_left 3
    · cases r with
      | error e => exact p
      | ok fl =>
        cases fl with
        | ret v =>
          obtain ⟨h2, tk2, β, K, d, rfl, k2, f2, R2, r2, q2⟩ := p
          have F2 := F'.keeps k2
          have N2 : News g' L' h2 (Mine.newsAll g' L' h2) := Mine.newsAll_ok
          have k3g : ∀ h3 : Heap, (∀ b o, g'.get? b = some o → h3.get? b = some o) → (∀ q ∈ Mine.newsAll g' L' h2, h3.get? q.1 = some q.2) → Mine.KeepsB (fun b => b = s₁.heap.objs.size ∨ b = L') h2 h3 := fun h3 a b => Mine.keepsB_two FG' F2 (fun b o e _ => a b o e) b
          have sub0 : ∀ q ∈ news, q ∈ Mine.newsAll g' L' h2 := fun q hq => Mine.newsAll_mem (N' q hq).2.2 (k2 _ _ (N' q hq).1) (N' q hq).2.1
          have frs : ∀ b, h'.get? b = none → s.heap.get? b = none := fun b e => by
            cases e1 : s.heap.get? b with
            | none => rfl
            | some o1 =>
              by_cases hb : b = s₁.heap.objs.size
              · subst hb
                obtain ⟨oL, _, _, hoL, _⟩ := FG'.ns
                rw [F'.keep _ _ hoL] at e; cases e
              · rw [kB.keep _ _ e1 hb] at e; cases e
          clear F' N' KB TT GFh hR' hr' kB led F N
          dsimp only
          k_steps
          rename_i D2 h3 F3 N3 l3 kF kN Tc kX
          have k3 := k3g h3 F3.keep (fun q hq => (N3 q (.tail _ hq)).1)
          exact hZ (.ref D2) (.tup [.str (Str.ofString ""), d]) h3 _ _ β K kF kN (fun q hq => .tail _ (sub0 q hq)) (fun b hb => frs b (f2 b hb)) (k3.hr R2) (Mine.told_rep (N3 _ (.head _)).1 (Mine.Rep.mono (fun _ _ e => e) k3.tup r2)) q2
        | _ => exact p.elim
    · intro k x H' hk hy
      rcases hy.1 with rfl | rfl | rfl
      · obtain rfl : Str.ofString "NoRow" = x := Option.some.inj hk
        kernel_rfl
      · obtain rfl : Str.ofString "NoStretch" = x := Option.some.inj hk
        kernel_rfl
      · obtain rfl : Str.ofString "NotAlone" = x := Option.some.inj hk
        kernel_rfl
    · intro k x C e t us h'' tk' H' hk hC hy RS US
      obtain ⟨G₂, RS2, FG2, US2⟩ := Mine.raised_news RS N' F' (fun b e => by
        cases e1 : s₁.heap.get? b with
        | none => rfl
        | some o1 => rw [FG'.keep _ _ e1] at e; cases e) (fun q hq hm => by
          rcases kts_mem hm with hm | hm
          · exact (N' q hq).2.1 hm
          · rcases kts_mem hm with hm | hm
            · obtain ⟨oL, _, _, hoL, _⟩ := FG'.ns
              rw [← hm, (N' q hq).2.2] at hoL; cases hoL
            · cases hm) US
      clear F' N' RS US KB TT GFh hR' hr' kB led
      rcases hy.1 with rfl | rfl | rfl
      · obtain rfl : Str.ofString "NoRow" = x := Option.some.inj hk
        obtain rfl : 49 = C := by
          have hC' : mg (Str.ofString "NoRow") = some (.ref C) := hC
          rw [c2] at hC'; cases hC'; rfl
        iterate 1 (first | (k_unfold; (try dsimp only)) | walk1 | (dsimp only; walk1))
        k_dflt (refine' hit_SB ?R ?F ?K ?U ?XB ?TB ?D ?T0 ?T ?_; (case R => assumption); (case F => assumption); (case K => assumption); (case U => assumption); (case XB => assumption); (case TB => assumption); (case D => assumption); (case T0 => first | assumption | exact KtsTurn.refl); (case T => kts_test); k_whole)
        intro h2 g2 n2 tk2 T2 F2 N2 G2 N3 K2 X2 P2 D2
        obtain ⟨oe, ot, ws, nt, m1, m2, ec, ed, e0, tc, td⟩ := G2
        have N4 := Mine.news_cons N3 (N2 _ m1)
        clear N2 N3 m1 m2 tc td e0
        (try k_lift K2)
        (try k_sweep)
        k_steps
        rename_i kF kN Tc kX
        exact Mine.told_end hZ F0 full hR (hy := hy.2) (rfl) kF kN (kN _ (.head _)).1 (fun q hq => by repeat (first | exact hq | apply List.Mem.tail))
      · obtain rfl : Str.ofString "NoStretch" = x := Option.some.inj hk
        obtain rfl : 61 = C := by
          have hC' : mg (Str.ofString "NoStretch") = some (.ref C) := hC
          rw [c3] at hC'; cases hC'; rfl
        iterate 1 (first | (k_unfold; (try dsimp only)) | walk1 | (dsimp only; walk1))
        k_dflt (refine' hit_SB ?R ?F ?K ?U ?XB ?TB ?D ?T0 ?T ?_; (case R => assumption); (case F => assumption); (case K => assumption); (case U => assumption); (case XB => assumption); (case TB => assumption); (case D => assumption); (case T0 => first | assumption | exact KtsTurn.refl); (case T => kts_test); k_whole)
        intro h2 g2 n2 tk2 T2 F2 N2 G2 N3 K2 X2 P2 D2
        obtain ⟨oe, ot, ws, nt, m1, m2, ec, ed, e0, tc, td⟩ := G2
        have N4 := Mine.news_cons N3 (N2 _ m1)
        clear N2 N3 m1 m2 tc td e0
        (try k_lift K2)
        (try k_sweep)
        k_steps
        rename_i kF kN Tc kX
        exact Mine.told_end hZ F0 full hR (hy := hy.2) (rfl) kF kN (kN _ (.head _)).1 (fun q hq => by repeat (first | exact hq | apply List.Mem.tail))
      · obtain rfl : Str.ofString "NotAlone" = x := Option.some.inj hk
        obtain rfl : 73 = C := by
          have hC' : mg (Str.ofString "NotAlone") = some (.ref C) := hC
          rw [c4] at hC'; cases hC'; rfl
        iterate 1 (first | (k_unfold; (try dsimp only)) | walk1 | (dsimp only; walk1))
        k_dflt (refine' hit_SB ?R ?F ?K ?U ?XB ?TB ?D ?T0 ?T ?_; (case R => assumption); (case F => assumption); (case K => assumption); (case U => assumption); (case XB => assumption); (case TB => assumption); (case D => assumption); (case T0 => first | assumption | exact KtsTurn.refl); (case T => kts_test); k_whole)
        intro h2 g2 n2 tk2 T2 F2 N2 G2 N3 K2 X2 P2 D2
        obtain ⟨oe, ot, ws, nt, m1, m2, ec, ed, e0, tc, td⟩ := G2
        have N4 := Mine.news_cons N3 (N2 _ m1)
        clear N2 N3 m1 m2 tc td e0
        (try k_lift K2)
        (try k_sweep)
        k_steps
        rename_i kF kN Tc kX
        exact Mine.told_end hZ F0 full hR (hy := hy.2) (rfl) kF kN (kN _ (.head _)).1 (fun q hq => by repeat (first | exact hq | apply List.Mem.tail))
  wrow_args hpre hlay hrd hwl hlo
  all_goals (
    first | refine callC_kw (enter_call ?_) | refine enter_call ?_ | refine callC_kw (enter_callW ?_) | refine enter_callW ?_ | w_how
    w_top on
    try refine codeAny_mono ?_ (fun _ _ g => GoodW.toG g)
    rename_i hL hlay1 _ _ _ _ _ _ _ hLs _ _ _ hI _ hcond _
    refine Mine.run_lawT (gc := Mine.L05.gc) (P := Mine.L05.fnTab) (VT := Mine.L05.varTab) (sub := Mine.L05.nosub) (k := 28) (n := 6) (x := "law") (Ψ := Mine.L05.Psi)
      GF1 (by decide +kernel) Mine.L05.chk (by decide) hLs hI (by omega) (by decide +kernel) hmg (by decide) (fd := ⟨1, 7, Mine.L05.b_law⟩) rfl rfl ?_ (Mine.L05.spec _ (by omega)) ?_
    · intro d vn cd hd13
      have hdd : d = Mine.L05.lawDef := (Option.some.inj ((show ((recsOf Mine.vw05).map Mine.toDef)[28]? = some Mine.L05.lawDef from rfl).symm.trans hd13)).symm
      subst hdd
      refine Mine.stry_gen (fun k vs H Q hq s α vals E m news Z F N full R r hZ => ?_) (Nat.le_refl _)
      rcases hq with ⟨hq, _⟩ | ⟨_, hq⟩
      · exact absurd hq (by omega)
      · rw [Nat.add_sub_cancel] at hq
        obtain rfl : k = 27 := hq.1
        show wpAny _ _ (call (.ref (Mine.fnAddr mg Mine.L05.fnNames 27)) _) _ _ _
        rw [fa27]
        exact key s α vals vs H Q E m news Z _ cd hq F N full R r hZ
    · intro h' tk kp
      exact ⟨.inl ⟨_, .bool true, [], rfl, by intro cls; rfl, .bool true, (by first | rfl | exact postW_of rfl rfl (by decide +kernel)), unshared_nil⟩, kp, rfl, hg⟩)

