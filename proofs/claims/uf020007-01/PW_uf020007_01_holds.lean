import PyProof.Rows.All
import Wide.All
import OpenK.AllK
import Wide.FinOn
import Open.Row
import PyProof.Fits
import PyProof.SameEqv
import PyProof.Rows.InDataRows
import PyProof.TupleOfSeq
import PyProof.ListCopy
import PyProof.Rows.TupMore
import KE.KRevIter
import PyProof.Rows.Range3
import PyProof.CompFree
import PyProof.CompUse
import PyProof.FitsBits
import PyProof.ExcArgsOwn
import PyProof.ExcAttrAll.ValueError
import KE.RegKTryMore
import KE.RegKIsAll
import PySem.Challenge.RW_uf020007_01
set_option Elab.async false
set_option autoImplicit false
namespace Mine
open PySem

/-! the mini language: values, expressions, statements -/

inductive V where
  | int (i : Int)
  | bool (b : Bool)
  | none
  | str (s : Str)
  | tup (xs : List V)
  | lst (n : Nat)
  | fn (k : Nat)
  | exc (k : Nat)

abbrev Hp := List (List V)
abbrev Loc := List (Option V)

inductive BOp where
  | add | sub | mul | fdiv | mod | pow
inductive COp where
  | lt | le | gt | ge | eq | ne | isin | notin | is
inductive Bi where
  | abs | len | int | list | tuple | min | listrev
inductive Ty where
  | int | bool | tuple | list | cls (k : Nat)

mutual
inductive PE where
  | cint (i : Int)
  | cbool (b : Bool)
  | cstr (s : Str)
  | cnone
  | var (i : Nat)
  | fnv (k : Nat)
  | glob (x : Str) (a b : Int)
  | bin (op : BOp) (a b : PE)
  | neg (a : PE)
  | nt (a : PE)
  | cmp (op : COp) (a b : PE)
  | and (es : PEs)
  | or (es : PEs)
  | call (f : Nat) (es : PEs)
  | callv (i : Nat) (es : PEs)
  | bi (b : Bi) (es : PEs)
  | isi (a : PE) (ts : List Ty)
  | idx (a b : PE)
  | slc (a : PE) (lo hi : PO)
  | tup (es : PEs)
  | lst (es : PEs)
  | comp (elt : PE) (tg : Nat) (caps : List Nat) (it : PI) (cond : PO)
inductive PEs where
  | nil
  | cons (e : PE) (r : PEs)
inductive PO where
  | no
  | some (e : PE)
inductive PI where
  | seq (e : PE)
  | rev (e : PE)
  | rng (es : PEs)
end

inductive PS where
  | skip
  | seq (a b : PS)
  | assign (i : Nat) (e : PE)
  | unpack (xs : List Nat) (e : PE)
  | setidx (i : Nat) (k e : PE)
  | app (i : Nat) (e : PE)
  | pop (i : Nat)
  | rev (i : Nat)
  | ret (e : PE)
  | ite (c : PE) (a b : PS)
  | whl (c : PE) (b : PS)
  | forr (i : Nat) (it : PI) (b : PS)
  | raise (k : Nat)
  | opaq
  | rett (f : Nat) (es : PEs)
  | asst (i f : Nat) (es : PEs)
  | tryc (x : Option Nat) (f : Nat) (es : PEs) (k e : Nat) (h : PS)

/-! locals -/
noncomputable def lget : Loc → Nat → Option V
  | [], _ => none
  | x :: _, 0 => x
  | _ :: r, n + 1 => lget r n
noncomputable def lset : Loc → Nat → V → Loc
  | [], _, _ => []
  | _ :: r, 0, v => some v :: r
  | x :: r, n + 1, v => x :: lset r n v
noncomputable def lsets : Loc → List Nat → List V → Loc
  | ρ, i :: is, v :: vs => lsets (lset ρ i v) is vs
  | ρ, _, _ => ρ

/-! looks -/
noncomputable def items (H : Hp) : V → Option (List V)
  | .tup xs => some xs
  | .lst n => H[n]?
  | _ => none
noncomputable def truthV (H : Hp) : V → Option Bool
  | .bool b => some b
  | .int i => some (i != 0)
  | .none => some false
  | .tup xs => some (!xs.isEmpty)
  | .lst n => (H[n]?).map fun xs => !xs.isEmpty
  | _ => none
noncomputable def datOf (H : Hp) : Nat → V → Option PyData
  | _, .int i => some (.int i)
  | _, .bool b => some (.bool b)
  | _, .none => some .none
  | _, .str s => if PyData.strOk s = true then some (.str s) else none
  | n + 1, .tup xs => (xs.mapM (datOf H n)).map .tuple
  | n + 1, .lst k => match H[k]? with
    | some xs => (xs.mapM (datOf H n)).map .list
    | none => none
  | _, _ => none
noncomputable def place (n : Nat) (k : Int) : Option Nat :=
  if 0 ≤ k then (if k < n then some k.toNat else none) else (if 0 ≤ k + n then some (k + n).toNat else none)
noncomputable def clampAt (n : Nat) (k : Int) : Nat :=
  (max 0 (min (if k < 0 then k + n else k) n)).toNat
noncomputable def cut (xs : List V) (lo hi : Nat) : List V := (xs.take hi).drop lo

end Mine

set_option autoImplicit false
namespace Mine
open PySem

abbrev Call := Nat → List V → Hp → (V → Hp → Prop) → (Nat → Hp → Prop) → Prop
/-- a bound on lists' lengths -/
noncomputable def lim : Nat := 1000000

/-- the look gives something, and that fits -/
noncomputable def ifSome {β : Type} (o : Option β) (P : β → Prop) : Prop := match o with
  | some v => P v
  | none => False
theorem ifSome_some {β : Type} {v : β} {P : β → Prop} : ifSome (some v) P = P v := rfl
theorem ifSome.get {β : Type} {o : Option β} {P : β → Prop} (q : ifSome o P) : ∃ v, o = some v ∧ P v := by
  cases o with
  | none => exact False.elim q
  | some v => exact ⟨v, rfl, q⟩
theorem ifSome.mk {β : Type} {o : Option β} {P : β → Prop} {v : β} (e : o = some v) (q : P v) : ifSome o P := by rw [e]; exact q
noncomputable def ifLst (o : Option V) (P : Nat → Prop) : Prop := match o with
  | some (.lst n) => P n
  | _ => False
theorem ifLst_lst {n : Nat} {P : Nat → Prop} : ifLst (some (.lst n)) P = P n := rfl
theorem ifLst.get {o : Option V} {P : Nat → Prop} (q : ifLst o P) : ∃ n, o = some (.lst n) ∧ P n := by
  cases o with
  | none => exact False.elim q
  | some v => cases v <;> first | exact False.elim q | exact ⟨_, rfl, q⟩
noncomputable def ifTup (v : V) (P : List V → Prop) : Prop := match v with
  | .tup xs => P xs
  | _ => False
theorem ifTup_tup {xs : List V} {P : List V → Prop} : ifTup (.tup xs) P = P xs := rfl
theorem ifTup.get {v : V} {P : List V → Prop} (q : ifTup v P) : ∃ xs, v = .tup xs ∧ P xs := by
  cases v <;> first | exact False.elim q | exact ⟨_, rfl, q⟩
noncomputable def ifInt (v : V) (P : Int → Prop) : Prop := match v with
  | .int i => P i
  | _ => False
theorem ifInt_int {i : Int} {P : Int → Prop} : ifInt (.int i) P = P i := rfl
theorem ifInt.get {v : V} {P : Int → Prop} (q : ifInt v P) : ∃ i, v = .int i ∧ P i := by
  cases v <;> first | exact False.elim q | exact ⟨_, rfl, q⟩

noncomputable def DivOk (b : Int) : Prop := b ≠ 0 ∧ b.natAbs < 2 ^ 8999

noncomputable def binWp (op : BOp) (x y : V) (H : Hp) (Q : V → Hp → Prop) : Prop :=
  match op, x, y with
  | .add, .int a, .int b => Q (.int (a + b)) H
  | .add, .lst m, .lst n => ifSome H[m]? fun xs => ifSome H[n]? fun ys => xs.length + ys.length ≤ lim ∧ Q (.lst H.length) (H ++ [xs ++ ys])
  | .sub, .int a, .int b => Q (.int (a - b)) H
  | .mul, .int a, .int b => IntMulOk a b ∧ Q (.int (a * b)) H
  | .mul, .lst m, .int k => ∃ x, H[m]? = some [x] ∧ 0 ≤ k ∧ k ≤ lim ∧ Q (.lst H.length) (H ++ [List.replicate k.toNat x])
  | .fdiv, .int a, .int b => DivOk b ∧ Q (.int (a.fdiv b)) H
  | .mod, .int a, .int b => b ≠ 0 ∧ Q (.int (a.fmod b)) H
  | .pow, .int a, .int b => 0 ≤ b ∧ b ≤ 1000 ∧ a.natAbs < 2 ^ 64 ∧ Q (.int (a ^ b.toNat)) H
  | _, _, _ => False

noncomputable def eqWp (x y : V) (H : Hp) (Q : Bool → Prop) : Prop :=
  ∃ da db, datOf H 4 x = some da ∧ datOf H 4 y = some db ∧ Q (PyData.eqv da db)

noncomputable def cmpWp (op : COp) (x y : V) (H : Hp) (Q : V → Hp → Prop) : Prop :=
  match op, x, y with
  | .lt, .int a, .int b => Q (.bool (decide (a < b))) H
  | .le, .int a, .int b => Q (.bool (decide (a ≤ b))) H
  | .gt, .int a, .int b => Q (.bool (decide (b < a))) H
  | .ge, .int a, .int b => Q (.bool (decide (b ≤ a))) H
  | .eq, .int a, .int b => Q (.bool (decide (a = b))) H
  | .ne, .int a, .int b => Q (.bool (!decide (a = b))) H
  | .eq, x, y => eqWp x y H fun b => Q (.bool b) H
  | .ne, x, y => eqWp x y H fun b => Q (.bool (!b)) H
  | .is, x, .none => Q (.bool (match x with | .none => true | _ => false)) H
  | .isin, x, .lst n => ∃ da ds, datOf H 3 x = some da ∧ datOf H 4 (.lst n) = some (.list ds) ∧ (∀ y ∈ ds, SeqAt.noMix y da = true) ∧ Q (.bool (ds.any fun d => PyData.eqv d da)) H
  | .notin, x, .lst n => ∃ da ds, datOf H 3 x = some da ∧ datOf H 4 (.lst n) = some (.list ds) ∧ (∀ y ∈ ds, SeqAt.noMix y da = true) ∧ Q (.bool (!ds.any fun d => PyData.eqv d da)) H
  | _, _, _ => False

noncomputable def biWp (b : Bi) (vs : List V) (H : Hp) (Q : V → Hp → Prop) : Prop :=
  match b, vs with
  | .abs, [.int a] => Q (.int (if a < 0 then -a else a)) H
  | .len, [x] => ifSome (items H x) fun xs => Q (.int xs.length) H
  | .int, [.bool b] => Q (.int (if b then 1 else 0)) H
  | .list, [x] => ifSome (items H x) fun xs => Q (.lst H.length) (H ++ [xs])
  | .tuple, [x] => ifSome (items H x) fun xs => Q (.tup xs) H
  | .listrev, [x] => ∃ xs, items H x = some xs ∧ Q (.lst H.length) (H ++ [xs.reverse])
  | .min, [.int a, .int b] => Q (.int (if b < a then b else a)) H
  | _, _ => False

/-- the class table: subclass relation by numbers -/
noncomputable def isTy (sub : Nat → Nat → Bool) (v : V) (t : Ty) : Option Bool :=
  match v, t with
  | .exc c, .cls k => some (sub c k)
  | .exc _, _ => none
  | .fn _, _ => none
  | _, .cls _ => none
  | .int _, .int => some true
  | .bool _, .int => some true
  | .bool _, .bool => some true
  | .tup _, .tuple => some true
  | .lst _, .list => some true
  | _, _ => some false

noncomputable def idxWp (x y : V) (H : Hp) (Q : V → Hp → Prop) : Prop :=
  match y with
  | .int k => ifSome (items H x) fun xs => ifSome (place xs.length k) fun i => ifSome xs[i]? fun v => Q v H
  | _ => False

noncomputable def cutAt (n : Nat) (lo hi : Option V) : Option (Nat × Nat) :=
  match lo, hi with
  | some (.int a), some (.int b) => some (clampAt n a, clampAt n b)
  | none, some (.int b) => some (0, clampAt n b)
  | some (.int a), none => some (clampAt n a, n)
  | none, none => some (0, n)
  | _, _ => none

noncomputable def slcWp (x : V) (lo hi : Option V) (H : Hp) (Q : V → Hp → Prop) : Prop :=
  match x with
  | .tup xs => (∃ a, lo = some (.int a) ∧ hi = none ∧ 1 ≤ a ∧ a ≤ xs.length ∧ Q (.tup (xs.drop a.toNat)) H) ∨ (lo = none ∧ hi = some (.int (-1)) ∧ xs ≠ [] ∧ Q (.tup xs.dropLast) H)
  | .lst n => ifSome H[n]? fun xs => ifSome (cutAt xs.length lo hi) fun p => Q (.lst H.length) (H ++ [cut xs p.1 p.2])
  | _ => False

/-- ints of a range -/
noncomputable def rangeL (a b c : Int) : List Int := (List.range (Builtin.Range.rangeSize a b c).toNat).map fun (i : Nat) => a + c * (i : Int)
noncomputable def smallI (a : Int) : Prop := -(2 ^ 40) < a ∧ a < 2 ^ 40
noncomputable def rngOf : List V → Option (Int × Int × Int)
  | [.int b] => some (0, b, 1)
  | [.int a, .int b] => some (a, b, 1)
  | [.int a, .int b, .int c] => some (a, b, c)
  | _ => none
noncomputable def rngWp (vs : List V) (H : Hp) (Q : List V → Option Nat → Hp → Prop) : Prop :=
  ∃ a b c, rngOf vs = some (a, b, c) ∧ smallI a ∧ smallI b ∧ (c = 1 ∨ c = -1 ∨ c = 2) ∧ Q ((rangeL a b c).map V.int) none H

/-- the list that a loop reads -/
noncomputable def srcOf : V → Option Nat
  | .lst n => some n
  | _ => none

noncomputable def compGo (step : V → Hp → (Option V → Hp → Prop) → Prop) : List V → Hp → (List V → Hp → Prop) → Prop
  | [], H, Q => Q [] H
  | x :: xs, H, Q => step x H fun o H1 => compGo step xs H1 fun ys H2 => Q (match o with | some y => y :: ys | none => ys) H2

noncomputable def bindT (tg : Nat) (x : V) : Option Loc :=
  match tg, x with
  | 1, x => some [some x]
  | 2, .tup [a, b] => some [some a, some b]
  | _, _ => none

section
variable (sub : Nat → Nat → Bool) (Φ : Call)
mutual
noncomputable def wpE : PE → Loc → Hp → (V → Hp → Prop) → Prop
  | .cint i, _, H, Q => Q (.int i) H
  | .cbool b, _, H, Q => Q (.bool b) H
  | .cstr s, _, H, Q => Q (.str s) H
  | .cnone, _, H, Q => Q .none H
  | .var i, ρ, H, Q => ifSome (lget ρ i) fun v => Q v H
  | .fnv k, _, H, Q => Q (.fn k) H
  | .glob _ a b, _, H, Q => Q (.tup [.int a, .int b]) H
  | .bin op a b, ρ, H, Q => wpE a ρ H fun x H1 => wpE b ρ H1 fun y H2 => binWp op x y H2 Q
  | .neg a, ρ, H, Q => wpE a ρ H fun x H1 => match x with | .int i => Q (.int (-i)) H1 | _ => False
  | .nt a, ρ, H, Q => wpE a ρ H fun x H1 => ifSome (truthV H1 x) fun t => Q (.bool (!t)) H1
  | .cmp op a b, ρ, H, Q => wpE a ρ H fun x H1 => wpE b ρ H1 fun y H2 => cmpWp op x y H2 Q
  | .and es, ρ, H, Q => wpAll true es ρ H Q
  | .or es, ρ, H, Q => wpAll false es ρ H Q
  | .call f es, ρ, H, Q => wpEs es ρ H fun vs H1 => Φ f vs H1 Q fun _ _ => False
  | .callv _ _, _, _, _ => False
  | .bi b es, ρ, H, Q => wpEs es ρ H fun vs H1 => biWp b vs H1 Q
  | .isi a ts, ρ, H, Q => wpE a ρ H fun x H1 => ifSome (ts.mapM (isTy sub x)) fun bs => Q (.bool (bs.any id)) H1
  | .idx a b, ρ, H, Q => wpE a ρ H fun x H1 => wpE b ρ H1 fun y H2 => idxWp x y H2 Q
  | .slc a lo hi, ρ, H, Q => wpE a ρ H fun x H1 => wpO lo ρ H1 fun l H2 => wpO hi ρ H2 fun h H3 => slcWp x l h H3 Q
  | .tup es, ρ, H, Q => wpEs es ρ H fun vs H1 => Q (.tup vs) H1
  | .lst es, ρ, H, Q => wpEs es ρ H fun vs H1 => Q (.lst H1.length) (H1 ++ [vs])
  | .comp elt tg caps it cond, ρ, H, Q => wpI it ρ H fun xs _ H1 => xs.length ≤ lim ∧ compGo (fun x H2 k => ifSome (bindT tg x) fun ρt =>
      wpO cond (ρt ++ caps.map (lget ρ)) H2 fun c H3 => ifSome (match c with | some c => truthV H3 c | none => some true) fun t =>
        if t then wpE elt (ρt ++ caps.map (lget ρ)) H3 fun y H4 => k (some y) H4 else k none H3) xs H1 fun ys H5 => Q (.lst H5.length) (H5 ++ [ys])
noncomputable def wpEs : PEs → Loc → Hp → (List V → Hp → Prop) → Prop
  | .nil, _, H, Q => Q [] H
  | .cons e r, ρ, H, Q => wpE e ρ H fun v H1 => wpEs r ρ H1 fun vs H2 => Q (v :: vs) H2
noncomputable def wpAll (b : Bool) : PEs → Loc → Hp → (V → Hp → Prop) → Prop
  | .nil, _, _, _ => False
  | .cons e .nil, ρ, H, Q => wpE e ρ H Q
  | .cons e r, ρ, H, Q => wpE e ρ H fun v H1 => ifSome (truthV H1 v) fun t => if t = b then wpAll b r ρ H1 Q else Q v H1
noncomputable def wpO : PO → Loc → Hp → (Option V → Hp → Prop) → Prop
  | .no, _, H, Q => Q none H
  | .some e, ρ, H, Q => wpE e ρ H fun v H1 => Q (some v) H1
noncomputable def wpI : PI → Loc → Hp → (List V → Option Nat → Hp → Prop) → Prop
  | .seq e, ρ, H, Q => wpE e ρ H fun v H1 => ifSome (items H1 v) fun xs => Q xs (srcOf v) H1
  | .rev e, ρ, H, Q => wpE e ρ H fun v H1 => ifSome (items H1 v) fun xs => Q xs.reverse (srcOf v) H1
  | .rng es, ρ, H, Q => wpEs es ρ H fun vs H1 => rngWp vs H1 Q
end

noncomputable def forGo (body : Loc → Hp → (Loc → Hp → Prop) → Prop) (i : Nat) : List V → Loc → Hp → (Loc → Hp → Prop) → Prop
  | [], ρ, H, N => N ρ H
  | x :: xs, ρ, H, N => body (lset ρ i x) H fun ρ' H' => forGo body i xs ρ' H' N

/-- W: the lists that may be written -/
noncomputable def wpS : (Nat → Prop) → PS → Loc → Hp → (Loc → Hp → Prop) → (V → Hp → Prop) → (Nat → Hp → Prop) → Prop
  | _, .skip, ρ, H, N, _, _ => N ρ H
  | W, .seq a b, ρ, H, N, R, X => wpS W a ρ H (fun ρ1 H1 => wpS W b ρ1 H1 N R X) R X
  | _, .assign i e, ρ, H, N, _, _ => wpE sub Φ e ρ H fun v H1 => N (lset ρ i v) H1
  | _, .unpack is e, ρ, H, N, _, _ => wpE sub Φ e ρ H fun v H1 => ifTup v fun vs => vs.length = is.length ∧ N (lsets ρ is vs) H1
  | W, .setidx i k e, ρ, H, N, _, _ => wpE sub Φ e ρ H fun v H1 => ifLst (lget ρ i) fun n => W n ∧ wpE sub Φ k ρ H1 fun kv H2 => ifInt kv fun j => ifSome H2[n]? fun xs =>
      ifSome (place xs.length j) fun p => N ρ (H2.set n (xs.set p v))
  | W, .app i e, ρ, H, N, _, _ => ifLst (lget ρ i) fun n => W n ∧ wpE sub Φ e ρ H fun v H1 => ifSome H1[n]? fun xs => xs.length < lim ∧ N ρ (H1.set n (xs ++ [v]))
  | _, .pop _, _, _, _, _, _ => False
  | _, .rev _, _, _, _, _, _ => False
  | _, .ret e, ρ, H, _, R, _ => wpE sub Φ e ρ H R
  | W, .ite c a b, ρ, H, N, R, X => wpE sub Φ c ρ H fun v H1 => ifSome (truthV H1 v) fun t => if t then wpS W a ρ H1 N R X else wpS W b ρ H1 N R X
  | W, .whl c b, ρ, H, N, R, _ => ∃ (I : Loc → Hp → Prop) (μ : Loc → Hp → Nat), I ρ H ∧ ∀ ρ1 H1, I ρ1 H1 → wpE sub Φ c ρ1 H1 fun v H2 => ifSome (truthV H2 v) fun t =>
      if t then wpS W b ρ1 H2 (fun ρ3 H3 => I ρ3 H3 ∧ μ ρ3 H3 < μ ρ1 H1) R (fun _ _ => False) else N ρ1 H2
  | W, .forr i it b, ρ, H, N, R, _ => wpI sub Φ it ρ H fun xs src H1 => forGo (fun ρ2 H2 k => wpS (fun m => W m ∧ some m ≠ src) b ρ2 H2 k R fun _ _ => False) i xs ρ H1 N
  | _, .raise k, _, H, _, _, X => X k H
  | _, .opaq, _, _, _, _, _ => False
  | _, .rett f es, ρ, H, _, R, _ => wpEs sub Φ es ρ H fun vs H1 => Φ (f + 1000) vs H1 R fun _ _ => False
  | _, .asst i f es, ρ, H, N, _, _ => wpEs sub Φ es ρ H fun vs H1 => Φ (f + 1000) vs H1 (fun v H2 => N (lset ρ i v) H2) fun _ _ => False
  | W, .tryc x f es k e h, ρ, H, N, R, X => wpEs sub Φ es ρ H fun vs H1 => Φ f vs H1
      (fun v H2 => N (match x with | some i => lset ρ i v | none => ρ) H2)
      (fun c H2 => sub c k = true ∧ wpS W h (lset ρ e (.exc c)) H2 (fun ρ3 H3 => N (lset ρ3 e .none) H3) R X)
end

structure Fn where
  np : Nat
  nv : Nat
  body : PS

noncomputable def startLoc (np nv : Nat) (vs : List V) : Loc := vs.map some ++ List.replicate (nv - np) none

noncomputable def callN (sub : Nat → Nat → Bool) (P : List Fn) : Nat → Call
  | 0 => fun _ _ _ _ _ => False
  | n + 1 => fun f vs H Q X => ∃ d, P[f]? = some d ∧ vs.length = d.np ∧ wpS sub (callN sub P n) (fun m => H.length ≤ m) d.body (startLoc d.np d.nv vs) H (fun _ H' => Q .none H') Q X

/-- the law's own frame: calls, and calls that may catch (from 1000 on) -/
noncomputable def topC (Ψ : Nat → List V → Hp → (V → Hp → Prop) → Prop) (c : Call) : Call := fun k vs H Q Y => (k < 1000 ∧ c k vs H Q Y) ∨ (1000 ≤ k ∧ Ψ (k - 1000) vs H Q)
theorem topC_c {Ψ : Nat → List V → Hp → (V → Hp → Prop) → Prop} {c : Call} {k : Nat} {vs : List V} {H : Hp} {Q : V → Hp → Prop} {Y : Nat → Hp → Prop} (hk : k < 1000) (h : c k vs H Q Y) : topC Ψ c k vs H Q Y := .inl ⟨hk, h⟩
theorem topC_t {Ψ : Nat → List V → Hp → (V → Hp → Prop) → Prop} {c : Call} {k : Nat} {vs : List V} {H : Hp} {Q : V → Hp → Prop} {Y : Nat → Hp → Prop} (h : Ψ k vs H Q) : topC Ψ c (k + 1000) vs H Q Y := .inr ⟨Nat.le_add_left _ _, by rw [Nat.add_sub_cancel]; exact h⟩

end Mine

set_option autoImplicit false
namespace Mine
open PySem

/-- what the matcher knows of the text: the functions' names, the classes' names -/
structure GC where
  fns : List Str
  cls : List Str
  globs : List (Str × Int × Int)
/-- and of the scope -/
structure MC where
  g : GC
  scope : Scope
  names : List Str

noncomputable def MC.isGlob (c : MC) (x : Str) : Bool := decide (c.scope.names.lookup x = some NameKind.globalImplicit) && !(x == Str.ofString "__debug__")
noncomputable def MC.isVar (c : MC) (i : Nat) (x : Str) : Bool := decide (c.names[i]? = some x) && !(x == Str.ofString "__debug__") && !(x == Str.ofString "__classdict__") &&
  (decide (c.scope.names.lookup x = some NameKind.local) || decide (c.scope.names.lookup x = some NameKind.cell) || decide (c.scope.names.lookup x = some NameKind.free))
noncomputable def MC.isNm (c : MC) (e : Expr) (x : Str) : Bool := match e with
  | .Name y _ => y == x && c.isGlob y
  | _ => false

noncomputable def opOf : BOp → Operator
  | .add => .Add | .sub => .Sub | .mul => .Mult | .fdiv => .FloorDiv | .mod => .Mod | .pow => .Pow
noncomputable def cmpOf : COp → CmpOp
  | .lt => .Lt | .le => .LtE | .gt => .Gt | .ge => .GtE | .eq => .Eq | .ne => .NotEq | .isin => .In | .notin => .NotIn | .is => .Is
noncomputable def biName : Bi → Str
  | .abs => "abs" | .len => "len" | .int => "int" | .list => "list" | .tuple => "tuple" | .min => "min" | .listrev => "list"

noncomputable def Bi.isRev : Bi → Bool
  | .listrev => true
  | _ => false
noncomputable def Ty.isCls : Ty → Bool
  | .cls _ => true
  | _ => false
noncomputable def notCompM (e : Expr) : Bool := match e with | .ListComp .. | .SetComp .. | .DictComp .. => false | _ => true
noncomputable def notStarM (e : Expr) : Bool := match e with | .Starred .. => false | _ => true
noncomputable def MC.isTyp (c : MC) (t : Ty) (e : Expr) : Bool := match t with
  | .int => c.isNm e "int"
  | .bool => c.isNm e "bool"
  | .tuple => c.isNm e "tuple"
  | .list => c.isNm e "list"
  | .cls k => match c.g.cls[k]? with | some x => c.isNm e x | none => false
noncomputable def MC.areTyps (c : MC) : List Ty → List Expr → Bool
  | [], [] => true
  | t :: ts, e :: es => c.isTyp t e && c.areTyps ts es
  | _, _ => false

noncomputable def MC.varNm (c : MC) (i : Nat) (e : Expr) : Bool := match e with
  | .Name x _ => c.isVar i x
  | _ => false
noncomputable def MC.fnNm (c : MC) (k : Nat) (e : Expr) : Bool := match c.g.fns[k]? with
  | some x => c.isNm e x
  | none => false
noncomputable def isOne {α : Type} (l : List α) : Option α := match l with
  | [x] => some x
  | _ => none
noncomputable def MC.isiOk (c : MC) (ts : List Ty) (e : Expr) : Bool := match e with
  | .Tuple es _ _ => decide (2 ≤ ts.length) && ts.all Ty.isCls && c.areTyps ts es
  | e => c.areTyps ts [e]
noncomputable def notSlice (e : Expr) : Bool := match e with | .Slice .. => false | _ => true
mutual
noncomputable def matchE (c : MC) : PE → Expr → Bool
  | .cint i, e => match e with | .Constant k _ _ => (match k with | .int j => decide (i = j) | _ => false) | _ => false
  | .cbool b, e => match e with | .Constant k _ _ => (match k with | .bool d => decide (b = d) | _ => false) | _ => false
  | .cstr s, e => match e with | .Constant k _ _ => (match k with | .str t => decide (s = t) | _ => false) | _ => false
  | .cnone, e => match e with | .Constant k _ _ => (match k with | .none => true | _ => false) | _ => false
  | .var i, e => c.varNm i e
  | .fnv k, e => c.fnNm k e
  | .glob x a b, e => c.g.globs.contains (x, a, b) && c.isNm e x
  | .bin op a b, e => match e with | .BinOp l o r _ => decide (o = opOf op) && matchE c a l && matchE c b r | _ => false
  | .neg a, e => match e with | .UnaryOp o x _ => decide (o = .USub) && matchE c a x | _ => false
  | .nt a, e => match e with | .UnaryOp o x _ => decide (o = .Not) && matchE c a x | _ => false
  | .cmp op a b, e => match e with | .Compare l os rs _ => (match isOne os, isOne rs with | some o, some r => decide (o = cmpOf op) && !behindInMarks o r && matchE c a l && matchE c b r | _, _ => false) | _ => false
  | .and es, e => match e with | .BoolOp o vs _ => decide (o = .And) && matchEs c es vs | _ => false
  | .or es, e => match e with | .BoolOp o vs _ => decide (o = .Or) && matchEs c es vs | _ => false
  | .call f es, e => match e with | .Call g as kw _ => kw.isEmpty && c.fnNm f g && !as.isEmpty && matchEs c es as | _ => false
  | .callv _ _, _ => false
  | .bi b es, e => match e with | .Call f as kw _ => !b.isRev && kw.isEmpty && c.isNm f (biName b) && !as.isEmpty && matchEs c es as | _ => false
  | .isi a ts, e => match e with
    | .Call f as kw _ => (match as with
      | x :: ys => (match isOne ys with | some t => kw.isEmpty && c.isNm f "isinstance" && matchE c a x && notStarM x && c.isiOk ts t | none => false)
      | [] => false)
    | _ => false
  | .idx a b, e => match e with | .Subscript x i _ => matchE c a x && matchE c b i && notSlice i | _ => false
  | .slc _ _ _, _ => false
  | .tup es, e => match e with | .Tuple vs _ _ => decide (vs.length ≤ 1000) && matchEs c es vs | _ => false
  | .lst es, e => match e with | .List vs _ => decide (vs.length ≤ 1000) && matchEs c es vs | _ => false
  | .comp _ _ _ _ _, _ => false
noncomputable def matchEs (c : MC) : PEs → List Expr → Bool
  | .nil, es => es.isEmpty
  | .cons e r, es => match es with | x :: xs => matchE c e x && notStarM x && matchEs c r xs | [] => false
end

mutual
noncomputable def matchS (c : MC) : PS → Stmt → Bool
  | .skip, _ => false
  | .seq _ _, _ => false
  | .assign i e, s => match s with | .Assign ts v _ => (match isOne ts with | some t => c.varNm i t && matchE c e v && (notCompM v || (match e with | .comp .. => true | _ => false)) | none => false) | _ => false
  | .unpack _ _, _ => false
  | .setidx _ _ _, _ => false
  | .app _ _, _ => false
  | .pop _, _ => false
  | .rev _, _ => false
  | .ret e, s => match s with | .Return o _ => (match o with | some v => matchE c e v | none => false) | _ => false
  | .ite t a b, s => match s with | .If v x y _ => matchE c t v && matchB c a x && matchB c b y | _ => false
  | .whl t b, s => match s with | .While v x y _ => y.isEmpty && matchE c t v && matchB c b x | _ => false
  | .forr _ _ _, _ => false
  | .raise _, s => match s with | .Raise _ _ _ => true | _ => false
  | .opaq, _ => false
  | .rett f es, s => match s with | .Return o _ => (match o with | some v => matchE c (.call f es) v | none => false) | _ => false
  | .asst _ _ _, _ => false
  | .tryc _ _ _ _ _ _, _ => false
noncomputable def matchB (c : MC) : PS → List Stmt → Bool
  | .skip, b => b.isEmpty
  | .seq a r, b => match b with | s :: ss => matchS c a s && matchB c r ss | [] => false
  | .assign _ _, _ => false
  | .unpack _ _, _ => false
  | .setidx _ _ _, _ => false
  | .app _ _, _ => false
  | .pop _, _ => false
  | .rev _, _ => false
  | .ret _, _ => false
  | .ite _ _ _, _ => false
  | .whl _ _, _ => false
  | .forr _ _ _, _ => false
  | .raise _, _ => false
  | .opaq, _ => true
  | .rett _ _, _ => false
  | .asst _ _ _, _ => false
  | .tryc _ _ _ _ _ _, _ => false
end

end Mine

set_option autoImplicit false
set_option linter.unusedVariables false
namespace Mine
open PySem PyProof.Rows

abbrev KeepsH (h h' : Heap) : Prop := ∀ b o, h.get? b = some o → h'.get? b = some o
theorem KeepsH.trans {h h' h'' : Heap} (a : KeepsH h h') (b : KeepsH h' h'') : KeepsH h h'' := fun x o e => b x o (a x o e)
theorem KeepsH.refl (h : Heap) : KeepsH h h := fun _ _ e => e

/-- what is known of the top's globals: fa: a function's address, ca: a class's address -/
structure GV where
  mg : Str → Option Value
  mb : Str → Option Value
  fa : Nat → Addr
  ca : Nat → Value

mutual
inductive Rep (G : GV) (α : List Addr) (h : Heap) : Value → V → Prop
  | int (i : Int) (t : Tok) : Rep G α h (.int i t) (.int i)
  | bool (b : Bool) : Rep G α h (.bool b) (.bool b)
  | none : Rep G α h .none .none
  | str (s : Str) (t : Tok) : Rep G α h (.str s t) (.str s)
  | tup {a : Addr} {vs : List Value} {xs : List V} : IsTup h a vs.toArray → Reps G α h vs xs → xs.length ≤ lim → Rep G α h (.ref a) (.tup xs)
  | lst {a : Addr} {n : Nat} : α[n]? = some a → Rep G α h (.ref a) (.lst n)
  | fn {a : Addr} {k : Nat} : a = G.fa k → Rep G α h (.ref a) (.fn k)
inductive Reps (G : GV) (α : List Addr) (h : Heap) : List Value → List V → Prop
  | nil : Reps G α h [] []
  | cons {v : Value} {d : V} {vs : List Value} {ds : List V} : Rep G α h v d → Reps G α h vs ds → Reps G α h (v :: vs) (d :: ds)
end

section
variable {G : GV} {α : List Addr} {h : Heap} {u : Value}
noncomputable def RepOut (G : GV) (α : List Addr) (h : Heap) (u : Value) : V → Prop
  | .int i => ∃ t, u = .int i t
  | .bool b => u = .bool b
  | .none => u = .none
  | .str s => ∃ t, u = .str s t
  | .tup xs => ∃ a vs, u = .ref a ∧ IsTup h a (List.toArray vs) ∧ Reps G α h vs xs ∧ xs.length ≤ lim
  | .lst n => ∃ a, u = .ref a ∧ α[n]? = some a
  | .fn k => u = .ref (G.fa k)
  | .exc _ => False
theorem Rep.out {x : V} (r : Rep G α h u x) : RepOut G α h u x := by
  cases r with
  | int i t => exact ⟨t, rfl⟩
  | bool b => exact rfl
  | none => exact rfl
  | str s t => exact ⟨t, rfl⟩
  | tup t r z => exact ⟨_, _, rfl, t, r, z⟩
  | lst e => exact ⟨_, rfl, e⟩
  | fn e => exact congrArg _ e
theorem Rep.int_inv {i : Int} (r : Rep G α h u (.int i)) : ∃ t, u = .int i t := r.out
theorem Rep.bool_inv {b : Bool} (r : Rep G α h u (.bool b)) : u = .bool b := r.out
theorem Rep.none_inv (r : Rep G α h u .none) : u = .none := r.out
theorem Rep.lst_inv {n : Nat} (r : Rep G α h u (.lst n)) : ∃ a, u = .ref a ∧ α[n]? = some a := r.out
noncomputable def RepsOut (G : GV) (α : List Addr) (h : Heap) (vs : List Value) : List V → Prop
  | [] => vs = []
  | d :: ds => ∃ v vs', vs = v :: vs' ∧ Rep G α h v d ∧ Reps G α h vs' ds
theorem Reps.out {vs : List Value} {ds : List V} (r : Reps G α h vs ds) : RepsOut G α h vs ds := by
  cases r with
  | nil => exact rfl
  | cons a b => exact ⟨_, _, rfl, a, b⟩
theorem Reps.one_inv {vs : List Value} {d : V} (r : Reps G α h vs [d]) : ∃ v, vs = [v] ∧ Rep G α h v d := by
  obtain ⟨v, vs', e, a, b⟩ := r.out
  cases b.out
  exact ⟨v, e, a⟩
theorem Reps.two_inv {vs : List Value} {d e : V} (r : Reps G α h vs [d, e]) : ∃ v w, vs = [v, w] ∧ Rep G α h v d ∧ Rep G α h w e := by
  obtain ⟨v, vs', e, a, b⟩ := r.out
  obtain ⟨w, rfl, c⟩ := b.one_inv
  exact ⟨v, w, e, a, c⟩
end

/-- a heap in which every tuple stands as it stood -/
noncomputable def KeepsT (h h' : Heap) : Prop := ∀ a items, IsTup h a items → IsTup h' a items
theorem KeepsT.of {h h' : Heap} (k : KeepsH h h') : KeepsT h h' := fun _ _ x => x.keeps k

mutual
theorem Rep.mono {G : GV} {α α' : List Addr} {h h' : Heap} (ha : ∀ (n : Nat) (a : Addr), α[n]? = some a → α'[n]? = some a) (k : KeepsT h h') :
    ∀ {v : Value} {d : V}, Rep G α h v d → Rep G α' h' v d
  | _, _, .int i t => .int i t
  | _, _, .bool b => .bool b
  | _, _, .none => .none
  | _, _, .str s t => .str s t
  | _, _, .tup t r z => .tup (k _ _ t) (Reps.mono ha k r) z
  | _, _, .lst e => .lst (ha _ _ e)
  | _, _, .fn e => .fn e
theorem Reps.mono {G : GV} {α α' : List Addr} {h h' : Heap} (ha : ∀ (n : Nat) (a : Addr), α[n]? = some a → α'[n]? = some a) (k : KeepsT h h') :
    ∀ {vs : List Value} {ds : List V}, Reps G α h vs ds → Reps G α' h' vs ds
  | _, _, .nil => .nil
  | _, _, .cons r rs => .cons (Rep.mono ha k r) (Reps.mono ha k rs)
end

theorem ext_app {α β : List Addr} (n : Nat) (a : Addr) (e : α[n]? = some a) : (α ++ β)[n]? = some a := by
  have hl : n < α.length := (List.getElem?_eq_some_iff.mp e).1
  rw [List.getElem?_append_left hl]; exact e
theorem Rep.up {G : GV} {α β : List Addr} {h h' : Heap} {v : Value} {d : V} (r : Rep G α h v d) (k : KeepsH h h') : Rep G (α ++ β) h' v d := r.mono ext_app (.of k)
theorem Reps.up {G : GV} {α β : List Addr} {h h' : Heap} {v : List Value} {d : List V} (r : Reps G α h v d) (k : KeepsH h h') : Reps G (α ++ β) h' v d := r.mono ext_app (.of k)

theorem Reps.len {G : GV} {α : List Addr} {h : Heap} : ∀ {vs : List Value} {ds : List V}, Reps G α h vs ds → vs.length = ds.length
  | _, _, .nil => rfl
  | _, _, .cons _ r => by simp [r.len]
theorem Reps.get {G : GV} {α : List Addr} {h : Heap} : ∀ {vs : List Value} {ds : List V}, Reps G α h vs ds → ∀ {n : Nat} {d : V}, ds[n]? = some d → ∃ v, vs[n]? = some v ∧ Rep G α h v d
  | _, _, .nil, n, d, e => by simp at e
  | _, _, .cons r rs, 0, d, e => by simp at e; subst e; exact ⟨_, rfl, r⟩
  | _, _, .cons r rs, n + 1, d, e => by
    simp at e
    obtain ⟨v, a, b⟩ := rs.get e
    exact ⟨v, by simpa using a, b⟩
theorem Reps.append {G : GV} {α : List Addr} {h : Heap} : ∀ {vs vs' : List Value} {ds ds' : List V}, Reps G α h vs ds → Reps G α h vs' ds' → Reps G α h (vs ++ vs') (ds ++ ds')
  | _, _, _, _, .nil, r => r
  | _, _, _, _, .cons a b, r => .cons a (b.append r)
theorem Reps.take {G : GV} {α : List Addr} {h : Heap} : ∀ {vs : List Value} {ds : List V} (n : Nat), Reps G α h vs ds → Reps G α h (vs.take n) (ds.take n)
  | _, _, 0, _ => by simpa using Reps.nil
  | _, _, _ + 1, .nil => .nil
  | _, _, n + 1, .cons a b => .cons a (b.take n)
theorem Reps.drop {G : GV} {α : List Addr} {h : Heap} : ∀ {vs : List Value} {ds : List V} (n : Nat), Reps G α h vs ds → Reps G α h (vs.drop n) (ds.drop n)
  | _, _, 0, r => r
  | _, _, _ + 1, .nil => .nil
  | _, _, n + 1, .cons _ b => b.drop n
theorem Reps.reverse {G : GV} {α : List Addr} {h : Heap} : ∀ {vs : List Value} {ds : List V}, Reps G α h vs ds → Reps G α h vs.reverse ds.reverse
  | _, _, .nil => .nil
  | _, _, .cons a b => by rw [List.reverse_cons, List.reverse_cons]; exact b.reverse.append (.cons a .nil)
theorem Reps.set {G : GV} {α : List Addr} {h : Heap} {v : Value} {d : V} (r : Rep G α h v d) : ∀ {vs : List Value} {ds : List V} (n : Nat), Reps G α h vs ds → Reps G α h (vs.set n v) (ds.set n d)
  | _, _, _, .nil => .nil
  | _, _, 0, .cons _ b => .cons r b
  | _, _, n + 1, .cons a b => .cons a (b.set r n)
theorem Reps.dropLast {G : GV} {α : List Addr} {h : Heap} {vs : List Value} {ds : List V} (r : Reps G α h vs ds) : Reps G α h vs.dropLast ds.dropLast := by
  rw [List.dropLast_eq_take, List.dropLast_eq_take, r.len]; exact r.take _
theorem Reps.replicate {G : GV} {α : List Addr} {h : Heap} {v : Value} {d : V} (r : Rep G α h v d) : ∀ n : Nat, Reps G α h (List.replicate n v) (List.replicate n d)
  | 0 => .nil
  | n + 1 => .cons r (Reps.replicate r n)

/-- the mini heap's lists stand in the heap -/
structure HR (G : GV) (α : List Addr) (h : Heap) (H : Hp) : Prop where
  len : α.length = H.length
  nodup : α.Nodup
  pos : 1 ≤ H.length
  lst : ∀ (n : Nat) (a : Addr) (xs : List V), α[n]? = some a → H[n]? = some xs → ∃ vs : List Value, h.IsList a vs.toArray ∧ Reps G α h vs xs ∧ xs.length ≤ lim ∧ (n ≠ 0 → h.PlainList a vs.toArray)

theorem HR.at {G : GV} {α : List Addr} {h : Heap} {H : Hp} (r : HR G α h H) {n : Nat} {a : Addr} (e : α[n]? = some a) : ∃ xs, H[n]? = some xs := by
  have : n < H.length := by rw [← r.len]; exact (List.getElem?_eq_some_iff.mp e).1
  exact ⟨H[n], List.getElem?_eq_getElem this⟩
theorem HR.lt {G : GV} {α : List Addr} {h : Heap} {H : Hp} (r : HR G α h H) {a : Addr} (e : a ∈ α) : a < h.objs.size := by
  obtain ⟨n, hn⟩ := List.mem_iff_getElem?.mp e
  obtain ⟨xs, hx⟩ := r.at hn
  obtain ⟨vs, ⟨o, ho, _⟩, _⟩ := r.lst n a xs hn hx
  exact Heap.lt_size ho

theorem isList_keeps {h h' : Heap} {a : Addr} {items : Array Value} (x : h.IsList a items) (k : KeepsH h h') : h'.IsList a items := let ⟨o, ho, r⟩ := x; ⟨o, k _ _ ho, r⟩
theorem plainList_keeps {h h' : Heap} {a : Addr} {items : Array Value} (x : h.PlainList a items) (k : KeepsH h h') : h'.PlainList a items := let ⟨n, e⟩ := x; ⟨n, k _ _ e⟩

theorem HR.keeps {G : GV} {α : List Addr} {h h' : Heap} {H : Hp} (r : HR G α h H) (k : KeepsH h h') : HR G α h' H :=
  ⟨r.len, r.nodup, r.pos, fun n a xs e1 e2 => let ⟨vs, l, q, z, p⟩ := r.lst n a xs e1 e2; ⟨vs, isList_keeps l k, q.mono (fun _ _ e => e) (.of k), z, fun hn => plainList_keeps (p hn) k⟩⟩

/-- a new list -/
theorem HR.push {G : GV} {α : List Addr} {h h' : Heap} {H : Hp} (r : HR G α h H) (k : KeepsH h h') {a : Addr} (ha : a ∉ α) {vs : List Value} {xs : List V} (hl : h'.PlainList a vs.toArray) (q : Reps G α h' vs xs) (z : xs.length ≤ lim) :
    HR G (α ++ [a]) h' (H ++ [xs]) := by
  refine ⟨by simp [r.len], ?_, by simp, fun n b ys e1 e2 => ?_⟩
  · rw [List.nodup_append]
    refine ⟨r.nodup, by simp, fun x hx y hy => ?_⟩
    simp at hy; subst hy; intro e; subst e; exact ha hx
  · by_cases hn : n < α.length
    · rw [List.getElem?_append_left hn] at e1
      rw [List.getElem?_append_left (r.len ▸ hn)] at e2
      obtain ⟨vs, l, q, z', p⟩ := r.lst n b ys e1 e2
      exact ⟨vs, isList_keeps l k, q.up k, z', fun hn => plainList_keeps (p hn) k⟩
    · have hn' : n = α.length := by
        have := (List.getElem?_eq_some_iff.mp e1).1
        simp at this; omega
      subst hn'
      rw [List.getElem?_append_right (Nat.le_refl _)] at e1
      rw [List.getElem?_append_right (by rw [r.len]; exact Nat.le_refl _)] at e2
      simp [r.len] at e1 e2
      subst e1 e2
      exact ⟨vs, hl.isList, q.mono ext_app (.of (.refl _)), z, fun _ => hl⟩

/-- a list is written -/
theorem HR.set {G : GV} {α : List Addr} {h h' : Heap} {H : Hp} (r : HR G α h H) {n : Nat} {a : Addr} (e : α[n]? = some a) {xs₀ : List V} (e0 : H[n]? = some xs₀) (hs : Heap.SameBut a h h') {vs : List Value} {xs : List V} (hl : h'.PlainList a vs.toArray) (q : Reps G α h vs xs) (z : xs.length ≤ lim) :
    KeepsT h h' ∧ HR G α h' (H.set n xs) := by
  obtain ⟨vs₀, ⟨o₀, ho₀, hc₀, _⟩, _⟩ := r.lst n a xs₀ e e0
  have kt : KeepsT h h' := fun b items x => by
    refine x.extBut hs.extBut fun q => ?_
    subst q
    obtain ⟨o, ho, hc, _⟩ := x
    rw [ho₀] at ho; cases ho
    rw [hc₀] at hc; exact absurd hc (by decide)
  refine ⟨kt, by simp [r.len], r.nodup, by simpa using r.pos, fun m b ys e1 e2 => ?_⟩
  by_cases hm : m = n
  · subst hm
    rw [e] at e1; cases e1
    have hlt : m < H.length := by rw [← r.len]; exact (List.getElem?_eq_some_iff.mp e).1
    rw [List.getElem?_set_self hlt] at e2
    cases e2
    exact ⟨vs, hl.isList, q.mono (fun _ _ e => e) kt, z, fun _ => hl⟩
  · rw [List.getElem?_set_ne (Ne.symm hm)] at e2
    obtain ⟨vs', l, q', z', p⟩ := r.lst m b ys e1 e2
    have hab : b ≠ a := fun hba => by
      subst hba
      have h1 := (List.getElem?_eq_some_iff.mp e1)
      have h2 := (List.getElem?_eq_some_iff.mp e)
      obtain ⟨l1, g1⟩ := h1
      obtain ⟨l2, g2⟩ := h2
      exact hm ((List.getElem_inj r.nodup).mp (g1.trans g2.symm))
    exact ⟨vs', l.extBut hs.extBut hab, q'.mono (fun _ _ e => e) kt, z', fun hn => let ⟨n', e'⟩ := p hn; ⟨n', hs.extBut _ _ hab e'⟩⟩

end Mine

set_option autoImplicit false
set_option linter.unusedVariables false
namespace Mine
open PySem PyProof.Rows PySem.Calls

/-- a def of the text -/
structure DefT where
  name : Str
  params : Arguments
  body : List Stmt
  scope : Scope

noncomputable def bltNames : List Str := ["abs", "len", "int", "list", "tuple", "min", "isinstance", "reversed", "range", "bool"]

/-- what the top is known to hold -/
structure GF (G : GV) (gc : GC) (DT : List DefT) (h : Heap) : Prop where
  g : h.Ns mainGlobals G.mg
  b : h.Ns builtinsNs G.mb
  nolimit : h.NoLimit
  fn : ∀ (k : Nat) (x : Str), gc.fns[k]? = some x → G.mg x = some (.ref (G.fa k)) ∧ ∃ d o pm cd doc, DT[k]? = some d ∧ d.name = x ∧ h.get? (G.fa k) = some o ∧
    o.data = .func (docDef d.name d.params d.body d.scope pm cd doc) ∧ h.CodeRec cd d.name
  blt : ∀ x ∈ bltNames, G.mg x = none ∧ G.mb x = bootBuiltins x
  glob : ∀ x a b, (x, a, b) ∈ gc.globs → ∃ t ta tb, G.mg x = some (.ref t) ∧ IsTup h t #[.int a ta, .int b tb]
  cls : ∀ (k : Nat) (x : Str), gc.cls[k]? = some x → G.mg x = some (G.ca k) ∨ (G.mg x = none ∧ G.mb x = some (G.ca k))

theorem GF.keeps {G : GV} {gc : GC} {DT : List DefT} {h h' : Heap} (F : GF G gc DT h) (k : KeepsH h h') : GF G gc DT h' where
  g := F.g.keeps k
  b := F.b.keeps k
  nolimit := F.nolimit.keeps k
  fn := fun i x e => let ⟨a, d, o, pm, cd, doc, b, c, f, g, r⟩ := F.fn i x e; ⟨a, d, o, pm, cd, doc, b, c, k _ _ f, g, r.keeps k⟩
  blt := F.blt
  glob := fun x a b e => let ⟨t, ta, tb, m, i⟩ := F.glob x a b e; ⟨t, ta, tb, m, i.keeps k⟩
  cls := F.cls

structure EnvOk (c : MC) (env : Env) : Prop where
  kind : env.scope.kind = .function
  globals : env.globals = mainGlobals
  builtins : env.builtins = builtinsNs
  loc : ∀ x, c.scope.names.lookup x = some NameKind.local → env.kindOf x = some .local
  glob : ∀ x, c.scope.names.lookup x = some NameKind.globalImplicit → env.kindOf x = some .globalImplicit
  cel : ∀ x, c.scope.names.lookup x = some NameKind.cell → env.kindOf x = some .cell
  fre : ∀ x, c.scope.names.lookup x = some NameKind.free → env.kindOf x = some .cell ∨ env.kindOf x = some .free
  cells : ∀ x, env.kindOf x = some .cell ∨ env.kindOf x = some .free → ∃ a, env.cells.lookup x = some a

noncomputable def VarAt (env : Env) (h : Heap) (x : Str) (v : Value) : Prop :=
  (env.kindOf x = some .local ∧ ∃ m, h.Ns env.locals m ∧ m x = some v) ∨
  ((env.kindOf x = some .cell ∨ env.kindOf x = some .free) ∧ ∃ c, env.cells.lookup x = some c ∧ h.IsCell c (some v))

theorem isCell_keeps {h h' : Heap} {c : Addr} {v : Option Value} (x : h.IsCell c v) (k : KeepsH h h') : h'.IsCell c v := let ⟨o, ho, r⟩ := x; ⟨o, k _ _ ho, r⟩
theorem VarAt.keeps {env : Env} {h h' : Heap} {x : Str} {v : Value} (a : VarAt env h x v) (k : KeepsH h h') : VarAt env h' x v := by
  rcases a with ⟨a, m, b, c⟩ | ⟨a, c, b, d⟩
  · exact .inl ⟨a, m, b.keeps k, c⟩
  · exact .inr ⟨a, c, b, isCell_keeps d k⟩

/-- the frame's variables -/
noncomputable def FI (G : GV) (c : MC) (env : Env) (α : List Addr) (h : Heap) (ρ : Loc) : Prop :=
  ∀ (i : Nat) (x : Str) (d : V), c.names[i]? = some x → lget ρ i = some d → ∃ v, VarAt env h x v ∧ Rep G α h v d
theorem FI.up {G : GV} {c : MC} {env : Env} {α β : List Addr} {h h' : Heap} {ρ : Loc} (F : FI G c env α h ρ) (k : KeepsH h h') : FI G c env (α ++ β) h' ρ :=
  fun i x d e1 e2 => let ⟨v, a, b⟩ := F i x d e1 e2; ⟨v, a.keeps k, b.up k⟩

/-- the post of a look: the heap has grown, the mini heap too -/
inductive Post {γ δ : Type} (G : GV) (RR : List Addr → Heap → γ → δ → Prop) (s : Shared) (α : List Addr) (H : Hp) (Q : δ → Hp → Prop) (v : γ) (s' : Shared) : Prop
  | mk (h' : Heap) (tk : Nat) (β : List Addr) (K : Hp) (d : δ) (e : s' = { s with heap := h', toks := tk }) (k : KeepsH s.heap h') (f : ∀ b ∈ β, s.heap.get? b = none) (R : HR G (α ++ β) h' (H ++ K)) (r : RR (α ++ β) h' v d) (q : Q d (H ++ K))

section
variable {prog : Program} {w : World} {A : Around} {E : Value → Shared → Prop} {s : Shared} {G : GV} {α : List Addr} {H : Hp}

theorem Post.same {γ δ : Type} {RR : List Addr → Heap → γ → δ → Prop} {Q : δ → Hp → Prop} {v : γ} {d : δ} (R : HR G α s.heap H) (r : RR α s.heap v d) (q : Q d H) (tk : Nat) : Post G RR s α H Q v { s with toks := tk } :=
  ⟨s.heap, tk, [], [], d, rfl, .refl _, by simp, by simpa using R, by simpa using r, by simpa using q⟩
theorem Post.same' {γ δ : Type} {RR : List Addr → Heap → γ → δ → Prop} {Q : δ → Hp → Prop} {v : γ} {d : δ} (R : HR G α s.heap H) (r : RR α s.heap v d) (q : Q d H) : Post G RR s α H Q v s :=
  Post.same R r q s.toks

theorem Post.trans {γ δ : Type} {RR : List Addr → Heap → γ → δ → Prop} {Q : δ → Hp → Prop} {v : γ} {s' : Shared} {h₁ : Heap} {tk₁ : Nat} {β : List Addr} {K : Hp}
    (k : KeepsH s.heap h₁) (f : ∀ b ∈ β, s.heap.get? b = none) (p : Post G RR { s with heap := h₁, toks := tk₁ } (α ++ β) (H ++ K) Q v s') : Post G RR s α H Q v s' := by
  obtain ⟨h', tk, β', K', d, rfl, k', f', R, r, q⟩ := p
  refine ⟨h', tk, β ++ β', K ++ K', d, rfl, k.trans k', fun b hb => ?_, by simpa using R, by simpa using r, by simpa using q⟩
  rcases List.mem_append.mp hb with hb | hb
  · exact f b hb
  · cases e : s.heap.get? b with
    | none => rfl
    | some o => have := k b o e; rw [show h₁.get? b = none from f' b hb] at this; cases this

theorem Post.mono {γ δ : Type} {RR : List Addr → Heap → γ → δ → Prop} {Q Q' : δ → Hp → Prop} {v : γ} {s' : Shared} (p : Post G RR s α H Q v s') (hq : ∀ d H, Q d H → Q' d H) : Post G RR s α H Q' v s' := by
  obtain ⟨h', tk, β, K, d, e, k, f, R, r, q⟩ := p
  exact ⟨h', tk, β, K, d, e, k, f, R, r, hq _ _ q⟩

/-- one look, then the next -/
theorem Post.then {γ δ γ' δ' : Type} {RR : List Addr → Heap → γ → δ → Prop} {RR' : List Addr → Heap → γ' → δ' → Prop} {Q : δ → Hp → Prop} {Q' : δ' → Hp → Prop} {v : γ} {s₁ : Shared} {t : Sem γ'}
    (p : Post G RR s α H Q v s₁)
    (h : ∀ h₁ tk₁ β K d, KeepsH s.heap h₁ → (∀ b ∈ β, s.heap.get? b = none) → HR G (α ++ β) h₁ (H ++ K) → RR (α ++ β) h₁ v d → Q d (H ++ K) →
      wpAny (model prog w) A t (Post G RR' { s with heap := h₁, toks := tk₁ } (α ++ β) (H ++ K) Q') E { s with heap := h₁, toks := tk₁ }) :
    wpAny (model prog w) A t (Post G RR' s α H Q') E s₁ := by
  obtain ⟨h', tk, β, K, d, rfl, k, f, R, r, q⟩ := p
  exact wpAny_mono (h h' tk β K d k f R r q) (fun _ _ x => x.trans k f) fun _ _ x => x

/-- the same, where the end is any post that the walk wants -/
theorem Post.go {γ δ γ' : Type} {RR : List Addr → Heap → γ → δ → Prop} {Q : δ → Hp → Prop} {v : γ} {s₁ : Shared} {t : Sem γ'} {Z : γ' → Shared → Prop}
    (p : Post G RR s α H Q v s₁)
    (h : ∀ h₁ tk₁ β K d, KeepsH s.heap h₁ → (∀ b ∈ β, s.heap.get? b = none) → HR G (α ++ β) h₁ (H ++ K) → RR (α ++ β) h₁ v d → Q d (H ++ K) →
      wpAny (model prog w) A t Z E { s with heap := h₁, toks := tk₁ }) :
    wpAny (model prog w) A t Z E s₁ := by
  obtain ⟨h', tk, β, K, d, rfl, k, f, R, r, q⟩ := p
  exact h h' tk β K d k f R r q
end

theorem MC.isVar_spec {c : MC} {i : Nat} {x : Str} (h : c.isVar i x = true) : c.names[i]? = some x ∧ (x == Str.ofString "__debug__") = false ∧ (x == Str.ofString "__classdict__") = false ∧
    (c.scope.names.lookup x = some NameKind.local ∨ c.scope.names.lookup x = some NameKind.cell ∨ c.scope.names.lookup x = some NameKind.free) := by
  unfold MC.isVar at h
  simp only [Bool.and_eq_true, Bool.or_eq_true, decide_eq_true_eq, Bool.not_eq_true'] at h
  obtain ⟨⟨⟨a, b⟩, d⟩, e⟩ := h
  exact ⟨a, b, d, by rcases e with (e | e) | e <;> simp [e]⟩
theorem MC.isGlob_spec {c : MC} {x : Str} (h : c.isGlob x = true) : c.scope.names.lookup x = some NameKind.globalImplicit ∧ (x == Str.ofString "__debug__") = false := by
  unfold MC.isGlob at h
  simpa only [Bool.and_eq_true, decide_eq_true_eq, Bool.not_eq_true'] using h
theorem MC.isNm_spec {c : MC} {e : Expr} {x : Str} (h : c.isNm e x = true) : ∃ pos, e = .Name x pos ∧ c.isGlob x = true := by
  unfold MC.isNm at h
  split at h
  · simp only [Bool.and_eq_true, beq_iff_eq] at h
    obtain ⟨rfl, h⟩ := h
    exact ⟨_, rfl, h⟩
  · cases h

section
variable {M : Model} {A : Around} {E : Value → Shared → Prop} {s : Shared} {c : MC} {env : Env} {Q : Value → Shared → Prop}

theorem load_var {i : Nat} {x : Str} {pos : Pos} {v : Value} (O : EnvOk c env) (hx : c.isVar i x = true) (hv : VarAt env s.heap x v) (h : Q v s) : wpAny M A (eval (.Name x pos) env) Q E s := by
  obtain ⟨_, hd, hn, _⟩ := MC.isVar_spec hx
  refine wpAny_Name ?_ hd
  rcases hv with ⟨k, m, hm, e⟩ | ⟨k | k, cc, hc, hv⟩
  · exact wpAny_loadName_local O.kind k hm e h
  · exact wpAny_loadName_cell O.kind k hc hv h
  · exact wpAny_loadName_free O.kind k hc hv h hn

theorem load_glob {G : GV} {x : Str} {pos : Pos} {v : Value} (O : EnvOk c env) (hx : c.isGlob x = true) (hg : s.heap.Ns mainGlobals G.mg) (hv : G.mg x = some v) (h : Q v s) : wpAny M A (eval (.Name x pos) env) Q E s := by
  obtain ⟨hk, hd⟩ := MC.isGlob_spec hx
  exact Name_function_global O.kind (O.glob x hk) (loadGlobal_global (O.globals ▸ hg) hv h) hd
theorem load_blt {G : GV} {x : Str} {pos : Pos} {v : Value} (O : EnvOk c env) (hx : c.isGlob x = true) (hg : s.heap.Ns mainGlobals G.mg) (hm : G.mg x = none) (hb : s.heap.Ns builtinsNs G.mb) (hv : G.mb x = some v) (h : Q v s) :
    wpAny M A (eval (.Name x pos) env) Q E s := by
  obtain ⟨hk, hd⟩ := MC.isGlob_spec hx
  exact Name_function_global O.kind (O.glob x hk) (loadGlobal_builtin (O.globals ▸ hg) hm (O.builtins ▸ hb) hv h) hd
end

/-- what the calls are known to give -/
structure AOk (A : Around) : Prop where
  handled : A.handled = none
  units : A.units + 100 < cLine

noncomputable def SCall (prog : Program) (w : World) (G : GV) (gc : GC) (DT : List DefT) (A : Around) (Φ : Call) : Prop :=
  ∀ (f : Nat) (x : Str) (vs : List V) (H : Hp) (Q : V → Hp → Prop), gc.fns[f]? = some x → Φ f vs H Q (fun _ _ => False) → ∀ (s : Shared) (α : List Addr) (vals : List Value) (E : Value → Shared → Prop),
    GF G gc DT s.heap → HR G α s.heap H → Reps G α s.heap vals vs → wpAny (model prog w) A (call (.ref (G.fa f)) vals) (Post G (Rep G) s α H Q) E s

structure SX where
  prog : Program
  w : World
  G : GV
  DT : List DefT
  A : Around
  sub : Nat → Nat → Bool
  Φ : Call

/-- the soundness of an expression -/
noncomputable def SE (X : SX) (c : MC) (pe : PE) (e : Expr) : Prop :=
  ∀ (env : Env) (s : Shared) (α : List Addr) (ρ : Loc) (H : Hp) (Q : V → Hp → Prop) (E : Value → Shared → Prop), EnvOk c env → GF X.G c.g X.DT s.heap → HR X.G α s.heap H → FI X.G c env α s.heap ρ →
    wpE X.sub X.Φ pe ρ H Q → wpAny (model X.prog X.w) X.A (eval e env) (Post X.G (Rep X.G) s α H Q) E s
noncomputable def SEs (X : SX) (c : MC) (pes : PEs) (es : List Expr) : Prop :=
  ∀ (env : Env) (s : Shared) (α : List Addr) (ρ : Loc) (H : Hp) (Q : List V → Hp → Prop) (E : Value → Shared → Prop) (pos : Pos), EnvOk c env → GF X.G c.g X.DT s.heap → HR X.G α s.heap H → FI X.G c env α s.heap ρ →
    wpEs X.sub X.Φ pes ρ H Q → wpAny (model X.prog X.w) X.A (spliced (backTo pos (starEach es env))) (Post X.G (fun α h vs ds => Reps X.G α h vs ds ∧ vs.length = es.length) s α H Q) E s

section
variable {X : SX} {c : MC}

theorem se_cint {i k : _} {pos : Pos} : SE X c (.cint i) (.Constant (.int i) k pos) := fun env s α ρ H Q E _ _ R _ q =>
  wpAny_Constant_int (Post.same R (Rep.int _ _) q _)
theorem se_cbool {i k : _} {pos : Pos} : SE X c (.cbool i) (.Constant (.bool i) k pos) := fun env s α ρ H Q E _ _ R _ q =>
  wpAny_Constant_bool (Post.same' R (Rep.bool _) q)
theorem se_cnone {k : _} {pos : Pos} : SE X c .cnone (.Constant .none k pos) := fun env s α ρ H Q E _ _ R _ q =>
  wpAny_Constant_none (Post.same' R Rep.none q)
theorem se_cstr {i k : _} {pos : Pos} : SE X c (.cstr i) (.Constant (.str i) k pos) := fun env s α ρ H Q E _ _ R _ q =>
  wpAny_Constant_str (Post.same R (Rep.str _ _) q _)
theorem se_var {i : Nat} {x : Str} {pos : Pos} (hx : c.isVar i x = true) : SE X c (.var i) (.Name x pos) := fun env s α ρ H Q E O _ R F q => by
  obtain ⟨v, e, q⟩ := ifSome.get q
  obtain ⟨u, hu, r⟩ := F i x v (MC.isVar_spec hx).1 e
  exact load_var O hx hu (Post.same' R r q)
theorem se_fnv {i : Nat} {x : Str} {pos : Pos} (hf : c.g.fns[i]? = some x) (hx : c.isGlob x = true) : SE X c (.fnv i) (.Name x pos) := fun env s α ρ H Q E O T R F q =>
  load_glob O hx T.g (T.fn i x hf).1 (Post.same' R (Rep.fn rfl) q)
theorem se_glob {x : Str} {a b : Int} {e : Expr} (hf : (x, a, b) ∈ c.g.globs) (hx : c.isNm e x = true) : SE X c (.glob x a b) e := fun env s α ρ H Q E O T R F q => by
  obtain ⟨pos, rfl, hx2⟩ := MC.isNm_spec hx
  obtain ⟨t, ta, tb, hm, ht⟩ := T.glob x a b hf
  exact load_glob O hx2 T.g hm (Post.same' R (Rep.tup (vs := [.int a ta, .int b tb]) ht (.cons (.int _ _) (.cons (.int _ _) .nil)) (by show 2 ≤ lim; decide)) q)

theorem ses_nil : SEs X c .nil [] := fun env s α ρ H Q E pos _ _ R _ q => args_nil (Post.same' R ⟨Reps.nil, rfl⟩ q)
theorem ses_cons {pe : PE} {e : Expr} {ps : PEs} {es : List Expr} (hs : (match e with | .Starred .. => false | _ => true) = true) (h1 : SE X c pe e) (h2 : SEs X c ps es) : SEs X c (.cons pe ps) (e :: es) :=
  fun env s α ρ H Q E pos O T R F q => by
  have he : starEach (e :: es) env = (false, eval e env) :: starEach es env := by cases e <;> first | rfl | cases hs
  refine args_cons (wpAny_mono (h1 env s α ρ H _ E O T R F q) (fun v s₁ p => ?_) fun _ _ x => x) he
  refine p.go fun h₁ tk₁ β K d k f R' r q' => ?_
  refine wpAny_mono (h2 env _ (α ++ β) ρ (H ++ K) _ E pos O (T.keeps k) R' (F.up k) q') (fun vs s₂ p₂ => ?_) fun _ _ x => x
  obtain ⟨h₂, tk₂, β₂, K₂, ds, rfl, k₂, f₂, R₂, r₂, q₂⟩ := p₂
  refine Post.trans (tk₁ := tk₁) k f ⟨h₂, tk₂, β₂, K₂, d :: ds, rfl, k₂, f₂, R₂, ⟨.cons (r.up k₂) r₂.1, by simp [r₂.2]⟩, q₂⟩

theorem keeps_push (h : Heap) (o : Obj) : KeepsH h (h.push o) := fun _ _ e => Heap.get?_push_of_some o e
theorem size_none (h : Heap) : h.get? h.objs.size = none := by
  cases e : h.get? h.objs.size with
  | none => rfl
  | some o => exact absurd (Heap.lt_size e) (Nat.lt_irrefl _)
theorem lim_le : lim ≤ sizeLine := by rw [sizeLine_eq]; decide

/-- a new tuple -/
theorem Post.newTup {s : Shared} {G : GV} {α : List Addr} {H : Hp} {vs : List Value} {xs : List V} {Q : V → Hp → Prop} (R : HR G α s.heap H) (r : Reps G α s.heap vs xs) (z : xs.length ≤ lim) (q : Q (.tup xs) H) {n : Nat} (tk : Nat) :
    Post G (Rep G) s α H Q (.ref s.heap.objs.size) { s with heap := s.heap.push { cls := .type "tuple", data := .seq vs.toArray n }, toks := tk } := by
  refine ⟨_, tk, [], [], .tup xs, rfl, keeps_push _ _, by simp, by simpa using R.keeps (keeps_push _ _), ?_, by simpa using q⟩
  exact Rep.tup (vs := vs) ⟨_, Heap.get?_push_size _ rfl, rfl, n, rfl⟩ (r.up (keeps_push _ _)) z
/-- a new list -/
theorem Post.newLst {s : Shared} {G : GV} {α : List Addr} {H : Hp} {vs : List Value} {xs : List V} {Q : V → Hp → Prop} (R : HR G α s.heap H) {h' : Heap} (k : KeepsH s.heap h') (r : Reps G α h' vs xs) (z : xs.length ≤ lim) (q : Q (.lst H.length) (H ++ [xs]))
    {D : Addr} (hD : s.heap.get? D = none) (hl : h'.PlainList D vs.toArray) (tk : Nat) :
    Post G (Rep G) s α H Q (.ref D) { s with heap := h', toks := tk } := by
  refine ⟨h', tk, [D], [xs], .lst H.length, rfl, k, by simpa using hD, R.push k (fun hm => ?_) hl r z, ?_, q⟩
  · obtain ⟨n, hn⟩ := List.mem_iff_getElem?.mp hm
    obtain ⟨ys, hy⟩ := R.at hn
    obtain ⟨us, ⟨o, ho, _⟩, _⟩ := R.lst n D ys hn hy
    rw [hD] at ho; cases ho
  · refine Rep.lst ?_
    rw [List.getElem?_append_right (by rw [R.len]; exact Nat.le_refl _)]; simp [R.len]
theorem Post.newLst' {s : Shared} {G : GV} {α : List Addr} {H : Hp} {vs : List Value} {xs : List V} {Q : V → Hp → Prop} (R : HR G α s.heap H) (r : Reps G α s.heap vs xs) (z : xs.length ≤ lim) (q : Q (.lst H.length) (H ++ [xs])) {n : Nat} (tk : Nat) :
    Post G (Rep G) s α H Q (.ref s.heap.objs.size) { s with heap := s.heap.push { cls := .type "list", data := .seq vs.toArray n }, toks := tk } :=
  Post.newLst R (keeps_push _ _) (r.mono (fun _ _ e => e) (.of (keeps_push _ _))) z q (size_none _) ⟨n, Heap.get?_push_size _ rfl⟩ tk

theorem se_tup {ps : PEs} {es : List Expr} {k : Nat} {pos : Pos} (hn : es.length ≤ 1000) (h : SEs X c ps es) : SE X c (.tup ps) (.Tuple es k pos) := fun env s α ρ H Q E O T R F q => by
  refine wpAny_Tuple (wpAny_mono (h env s α ρ H _ E pos O T R F q) (fun vs s₁ p => ?_) fun _ _ x => x)
  obtain ⟨h₁, tk₁, β, K, ds, rfl, k₁, f, R', r, q'⟩ := p
  have hl := r.1.len
  refine ⟨by rw [r.2]; exact Nat.le_trans hn (Nat.le_trans (by decide) lim_le), Post.trans (tk₁ := tk₁) (K := K) k₁ f ?_⟩
  exact Post.newTup (s := { s with heap := h₁, toks := tk₁ }) R' r.1 (by rw [← hl, r.2]; exact Nat.le_trans hn (by decide)) q' tk₁
theorem se_lst {ps : PEs} {es : List Expr} {pos : Pos} (hn : es.length ≤ 1000) (h : SEs X c ps es) : SE X c (.lst ps) (.List es pos) := fun env s α ρ H Q E O T R F q => by
  refine wpAny_List (wpAny_mono (h env s α ρ H _ E pos O T R F q) (fun vs s₁ p => ?_) fun _ _ x => x)
  obtain ⟨h₁, tk₁, β, K, ds, rfl, k₁, f, R', r, q'⟩ := p
  have hl := r.1.len
  refine ⟨by rw [r.2]; exact Nat.le_trans hn (Nat.le_trans (by decide) lim_le), Post.trans (tk₁ := tk₁) (K := K) k₁ f ?_⟩
  exact Post.newLst' (s := { s with heap := h₁, toks := tk₁ }) R' r.1 (by rw [← hl, r.2]; exact Nat.le_trans hn (by decide)) q' tk₁

/-! two operands -/
theorem two {a b : PE} {l r : Expr} {ρ : Loc} {env : Env} {s : Shared} {α : List Addr} {H : Hp} {E : Value → Shared → Prop} {Q : V → V → Hp → Prop} {Z : Value → Value → Shared → Prop} (h1 : SE X c a l) (h2 : SE X c b r)
    (O : EnvOk c env) (T : GF X.G c.g X.DT s.heap) (R : HR X.G α s.heap H) (F : FI X.G c env α s.heap ρ)
    (q : wpE X.sub X.Φ a ρ H fun x H1 => wpE X.sub X.Φ b ρ H1 fun y H2 => Q x y H2)
    (hz : ∀ h' tk β K u v x y, KeepsH s.heap h' → (∀ b ∈ β, s.heap.get? b = none) → HR X.G (α ++ β) h' (H ++ K) → Rep X.G (α ++ β) h' u x → Rep X.G (α ++ β) h' v y → Q x y (H ++ K) → Z u v { s with heap := h', toks := tk }) :
    wpAny (model X.prog X.w) X.A (eval l env) (fun u s₁ => wpAny (model X.prog X.w) X.A (eval r env) (fun v s₂ => Z u v s₂) E s₁) E s := by
  refine wpAny_mono (h1 env s α ρ H _ E O T R F q) (fun u s₁ p => ?_) fun _ _ x => x
  refine p.go fun h₁ tk₁ β K d k f R' r q' => ?_
  refine wpAny_mono (h2 env _ (α ++ β) ρ (H ++ K) _ E O (T.keeps k) R' (F.up k) q') (fun v s₂ p₂ => ?_) fun _ _ x => x
  obtain ⟨h₂, tk₂, β₂, K₂, e, rfl, k₂, f₂, R₂, r₂, q₂⟩ := p₂
  have := hz h₂ tk₂ (β ++ β₂) (K ++ K₂) u v d e (k.trans k₂) (fun b hb => ?_) (by simpa using R₂) (by simpa using (r.up (β := β₂) k₂)) (by simpa using r₂) (by simpa using q₂)
  · exact this
  · rcases List.mem_append.mp hb with hb | hb
    · exact f b hb
    · cases e : s.heap.get? b with
      | none => rfl
      | some o => have := k b o e; rw [show h₁.get? b = none from f₂ b hb] at this; cases this

section
variable {prog : Program} {w : World} {A : Around} {E : Value → Shared → Prop} {s : Shared} {G : GV} {α : List Addr} {H : Hp} {Q : V → Hp → Prop}
theorem add_lists' {l b : Addr} {vs ws : List Value} {Z : Value → Shared → Prop} (hl : s.heap.IsList l vs.toArray) (hb : s.heap.IsList b ws.toArray) (hsz : vs.length + ws.length ≤ sizeLine)
    (h : Z (.ref s.heap.objs.size) { s with heap := s.heap.push { cls := .type "list", data := .seq (vs ++ ws).toArray } }) : wpAny (model prog w) A (binaryOp .Add (.ref l) (.ref b)) Z E s := by
  obtain ⟨⟨c1, d1, t1, sl1⟩, o1, e1, n1, f1⟩ := hl
  obtain ⟨⟨c2, d2, t2, sl2⟩, o2, e2, n2, f2⟩ := hb
  dsimp only at e1 f1 e2 f2
  subst e1 f1 e2 f2
  refine concat_meets ⟨_, o1, rfl⟩ ⟨_, o2, rfl⟩ noFill_list_add seq_list_add PySem.F.slot_list_add PySem.F.entry_list_add (PySem.F.args_list_add_2 _ _) (list_addW l b vs.toArray ws.toArray n1 n2 d1 d2 sl1 sl2 (by simpa using hsz)) ⟨o1, o2, ?_⟩
  simpa using h
end
end
end Mine

set_option autoImplicit false
set_option linter.unusedVariables false
namespace Mine
open PySem PyProof.Rows PySem.Calls

section
variable {prog : Program} {w : World} {A : Around} {E : Value → Shared → Prop} {s : Shared} {G : GV} {α : List Addr} {H : Hp} {Q : V → Hp → Prop}

theorem HR.getList (R : HR G α s.heap H) {a : Addr} {n : Nat} {xs : List V} (e : α[n]? = some a) (h : H[n]? = some xs) : ∃ vs : List Value, s.heap.IsList a vs.toArray ∧ Reps G α s.heap vs xs ∧ xs.length ≤ lim ∧ vs.length ≤ lim := by
  obtain ⟨vs, l, r, z, _⟩ := R.lst n a xs e h
  exact ⟨vs, l, r, z, by rw [r.len]; exact z⟩

/-- the items of a sequence -/
theorem seqOf {v : Value} {d : V} {xs : List V} (R : HR G α s.heap H) (r : Rep G α s.heap v d) (e : items H d = some xs) :
    ∃ (a : Addr) (vs : List Value), v = .ref a ∧ Reps G α s.heap vs xs ∧ xs.length ≤ lim ∧ vs.length ≤ lim ∧ ((IsTup s.heap a vs.toArray ∧ ∃ ys, d = .tup ys) ∨ (s.heap.IsList a vs.toArray ∧ ∃ n, d = .lst n)) := by
  cases r with
  | tup t q z => cases e; exact ⟨_, _, rfl, q, z, by rw [q.len]; exact z, .inl ⟨t, _, rfl⟩⟩
  | lst q =>
    obtain ⟨vs, l, r, z, y⟩ := R.getList q e
    exact ⟨_, vs, rfl, r, z, y, .inr ⟨l, _, rfl⟩⟩
  | _ => cases e

theorem fold_replicate (v : Value) : ∀ n : Nat, List.foldl (fun x1 x2 : Array Value => x1 ++ x2) #[] (List.replicate n #[v]) = (List.replicate n v).toArray := by
  intro n
  have key : ∀ (n : Nat) (acc : Array Value), List.foldl (fun x1 x2 : Array Value => x1 ++ x2) acc (List.replicate n #[v]) = acc ++ (List.replicate n v).toArray := by
    intro n
    induction n with
    | zero => intro acc; simp
    | succ n ih =>
      intro acc
      rw [List.replicate_succ, List.foldl_cons, ih, List.replicate_succ]
      apply Array.ext'
      simp
  rw [key]; simp

theorem mul_list' {l : Addr} {v : Value} {k : Int} {u : Tok} {Z : Value → Shared → Prop} (hl : s.heap.IsList l [v].toArray) (h0 : 0 ≤ k) (h1 : k ≤ lim)
    (h : Z (.ref s.heap.objs.size) { s with heap := s.heap.push { cls := .type "list", data := .seq (List.replicate k.toNat v).toArray } }) : wpAny (model prog w) A (binaryOp .Mult (.ref l) (.int k u)) Z E s := by
  obtain ⟨⟨c1, d1, t1, sl1⟩, o1, e1, n1, f1⟩ := hl
  dsimp only at e1 f1
  subst e1 f1
  have hk : k.toNat ≤ 1000000 := by have h2 : k ≤ 1000000 := h1; omega
  have hk' : k ≤ 1000000 := h1
  refine wpAny_binaryOp_repeat_ref (T := "list") (U := "int") (by decide) ⟨_, o1, rfl⟩ (fun s' => typeIs_int s' k u) noFill_list_mul F.fills_int_mul F.slot_int_rmul repeat_list F.slot_int_index.lookup
    (call_meets F.slot_int_rmul (typeIs_int s k u) F.entry_int_rmul (F.args_int_rmul_2 _ _) (lm_int_rmul_list_any k u l [v].toArray n1 d1 sl1)
      ⟨o1, rfl, ⟨_, o1, rfl⟩, call_meets F.slot_list_mul ⟨_, o1, rfl⟩ F.entry_list_mul (F.args_list_mul_2 _ _)
        (lm_list_mul_any l [v].toArray n1 d1 sl1 k u (by simp [Builtin.List.listFitsIndex]; omega) (by simp; omega) (by simp [Builtin.List.listTooLong, sizeLine]; omega))
        ⟨o1, ?_⟩⟩)
  have e : (if ([v].toArray).isEmpty = true then 0 else k.toNat) = k.toNat := by simp
  rw [e, show ([v].toArray : Array Value) = #[v] from rfl, fold_replicate]
  exact h

theorem binOp_sound {op : BOp} {u v : Value} {x y : V} (R : HR G α s.heap H) (ru : Rep G α s.heap u x) (rv : Rep G α s.heap v y) (q : binWp op x y H Q) :
    wpAny (model prog w) A (binaryOp (opOf op) u v) (Post G (Rep G) s α H Q) E s := by
  cases op
  · cases x <;> first | exact False.elim q | skip
    · cases y <;> first | exact False.elim q | skip
      obtain ⟨t, rfl⟩ := ru.int_inv
      obtain ⟨t', rfl⟩ := rv.int_inv
      exact add_int (Post.same R (.int _ _) q _)
    · cases y <;> first | exact False.elim q | skip
      obtain ⟨a, rfl, e1⟩ := ru.lst_inv
      obtain ⟨b, rfl, e2⟩ := rv.lst_inv
      obtain ⟨xs, h1, q⟩ := ifSome.get q
      obtain ⟨ys, h2, hz, q⟩ := ifSome.get q
      obtain ⟨vs, l1, r1, z1, z1'⟩ := R.getList e1 h1
      obtain ⟨ws, l2, r2, z2, z2'⟩ := R.getList e2 h2
      have hlen : vs.length + ws.length ≤ lim := by rw [r1.len, r2.len]; exact hz
      exact add_lists' l1 l2 (Nat.le_trans hlen lim_le) (Post.newLst' R (r1.append r2) (by rw [List.length_append]; exact hz) q s.toks)
  · cases x <;> first | exact False.elim q | skip
    cases y <;> first | exact False.elim q | skip
    obtain ⟨t, rfl⟩ := ru.int_inv
    obtain ⟨t', rfl⟩ := rv.int_inv
    exact sub_int (Post.same R (.int _ _) q _)
  · cases x <;> first | exact False.elim q | skip
    · cases y <;> first | exact False.elim q | skip
      obtain ⟨t, rfl⟩ := ru.int_inv
      obtain ⟨t', rfl⟩ := rv.int_inv
      exact mul_int (Post.same R (.int _ _) q.2 _) q.1
    · cases y <;> first | exact False.elim q | skip
      rename_i k
      obtain ⟨a, rfl, e1⟩ := ru.lst_inv
      obtain ⟨t', rfl⟩ := rv.int_inv
      obtain ⟨x, h1, h0, hk, q⟩ := q
      obtain ⟨vs, l1, r1, z1, z1'⟩ := R.getList e1 h1
      obtain ⟨v, rfl, rx⟩ := r1.one_inv
      have hk' : k.toNat ≤ lim := by have h2 : k ≤ 1000000 := hk; show _ ≤ 1000000; omega
      exact mul_list' l1 h0 hk (Post.newLst' R (Reps.replicate rx k.toNat) (by rw [List.length_replicate]; exact hk') q s.toks)
  · cases x <;> first | exact False.elim q | skip
    cases y <;> first | exact False.elim q | skip
    rename_i i j
    obtain ⟨t, rfl⟩ := ru.int_inv
    obtain ⟨t', rfl⟩ := rv.int_inv
    replace q : DivOk j ∧ Q (.int (i.fdiv j)) H := q
    refine floordiv_int q.1.1 (Post.same R (.int _ _) q.2 _) (Or.inl (PyProof.noPylong_of_log2 ?_))
    exact (Nat.log2_lt (Int.natAbs_ne_zero.mpr q.1.1)).mpr (Nat.lt_of_lt_of_le q.1.2 (Nat.pow_le_pow_right (by decide) (by decide)))
  · cases x <;> first | exact False.elim q | skip
    cases y <;> first | exact False.elim q | skip
    obtain ⟨t, rfl⟩ := ru.int_inv
    obtain ⟨t', rfl⟩ := rv.int_inv
    exact mod_int' q.1 (Post.same R (.int _ _) q.2 _)
  · cases x <;> first | exact False.elim q | skip
    cases y <;> first | exact False.elim q | skip
    obtain ⟨t, rfl⟩ := ru.int_inv
    obtain ⟨t', rfl⟩ := rv.int_inv
    exact pow_int_small q.1 (by have := q.2.1; omega) q.2.2.1 (Post.same R (.int _ _) q.2.2.2 _)

/-! data -/
mutual
theorem datReads (R : HR G α s.heap H) : ∀ (n : Nat) {v : Value} {x : V} {d : PyData}, Rep G α s.heap v x → datOf H n x = some d → ∃ as, Reads s.heap v d as
  | n, _, _, d, .int i t, e => by cases n <;> (simp [datOf] at e; subst e; exact ⟨_, .int _ _⟩)
  | n, _, _, d, .bool b, e => by cases n <;> (simp [datOf] at e; subst e; exact ⟨_, .bool _⟩)
  | n, _, _, d, .none, e => by cases n <;> (simp [datOf] at e; subst e; exact ⟨_, .none⟩)
  | n, _, _, d, .str _ _, e => by cases n <;> (simp only [datOf, Option.ite_none_right_eq_some, Option.some.injEq] at e; obtain ⟨_, rfl⟩ := e; exact ⟨_, .str _ _⟩)
  | 0, _, _, d, .tup t q z, e => by simp [datOf] at e
  | n + 1, _, _, d, .tup (vs := vs) t q z, e => by
    simp only [datOf, Option.map_eq_some_iff] at e
    obtain ⟨ds, e, rfl⟩ := e
    obtain ⟨as, r⟩ := datReadsAll R n q e
    obtain ⟨o, ho, hc, k, hd⟩ := t
    exact ⟨_, .tuple ho hc hd (by simpa using r)⟩
  | 0, _, _, d, .lst _, e => by simp [datOf] at e
  | n + 1, _, _, d, .lst (n := m) ha, e => by
    simp only [datOf] at e
    split at e
    · rename_i xs hx
      simp only [Option.map_eq_some_iff] at e
      obtain ⟨ds, e, rfl⟩ := e
      obtain ⟨vs, ⟨o, ho, hc, k, hd⟩, q, _⟩ := R.lst m _ xs ha hx
      obtain ⟨as, r⟩ := datReadsAll R n q e
      exact ⟨_, .list ho hc hd (by simpa using r)⟩
    · cases e
  | n, _, _, d, .fn _, e => by cases n <;> simp [datOf] at e
theorem datReadsAll (R : HR G α s.heap H) : ∀ (n : Nat) {vs : List Value} {xs : List V} {ds : List PyData}, Reps G α s.heap vs xs → xs.mapM (datOf H n) = some ds → ∃ as, ReadsAll s.heap vs ds as
  | n, _, _, ds, .nil, e => by simp at e; subst e; exact ⟨_, .nil⟩
  | n, _, _, ds, .cons a b, e => by
    simp only [List.mapM_cons, Option.bind_eq_bind, Option.bind_eq_some_iff, Option.pure_def, Option.some.injEq] at e
    obtain ⟨d, e1, ds', e2, rfl⟩ := e
    obtain ⟨as, r⟩ := datReads R n a e1
    obtain ⟨bs, r2⟩ := datReadsAll R n b e2
    exact ⟨_, .cons r r2⟩
end
end
end Mine

set_option autoImplicit false
set_option linter.unusedVariables false
namespace Mine
open PySem PyProof.Rows PySem.Calls

theorem datShapeAll (H : Hp) (n : Nat) (ih : ∀ {x : V} {d : PyData}, datOf H n x = some d → d.canLay0 = true ∧ d.depth ≤ n + 1) :
    ∀ {xs : List V} {ds : List PyData}, xs.mapM (datOf H n) = some ds → PyData.canLayAll0 ds = true ∧ PyData.depthAll ds ≤ n + 1
  | [], ds, e => by simp at e; subst e; simp [PyData.canLayAll0, PyData.depthAll]
  | x :: xs, ds, e => by
    simp only [List.mapM_cons, Option.bind_eq_bind, Option.bind_eq_some_iff, Option.pure_def, Option.some.injEq] at e
    obtain ⟨d, e1, ds', e2, rfl⟩ := e
    have h1 := ih e1
    have h2 := datShapeAll H n ih e2
    simp only [PyData.canLayAll0, PyData.depthAll, Bool.and_eq_true]
    exact ⟨⟨h1.1, h2.1⟩, by omega⟩
theorem datShape (H : Hp) : ∀ (n : Nat) {x : V} {d : PyData}, datOf H n x = some d → d.canLay0 = true ∧ d.depth ≤ n + 1
  | n, .int i, d, e => by cases n <;> (simp [datOf] at e; subst e; simp [PyData.canLay0, PyData.depth])
  | n, .bool i, d, e => by cases n <;> (simp [datOf] at e; subst e; simp [PyData.canLay0, PyData.depth])
  | n, .none, d, e => by cases n <;> (simp [datOf] at e; subst e; simp [PyData.canLay0, PyData.depth])
  | n, .str i, d, e => by cases n <;> (simp only [datOf, Option.ite_none_right_eq_some, Option.some.injEq] at e; obtain ⟨h, rfl⟩ := e; simp [PyData.canLay0, PyData.depth, h])
  | 0, .tup xs, d, e => by simp [datOf] at e
  | n + 1, .tup xs, d, e => by
    simp only [datOf, Option.map_eq_some_iff] at e
    obtain ⟨ds, e, rfl⟩ := e
    have := datShapeAll H n (fun e => datShape H n e) e
    simp only [PyData.canLay0, PyData.depth]
    exact ⟨this.1, by omega⟩
  | 0, .lst k, d, e => by simp [datOf] at e
  | n + 1, .lst k, d, e => by
    simp only [datOf] at e
    split at e
    · simp only [Option.map_eq_some_iff] at e
      obtain ⟨ds, e, rfl⟩ := e
      have := datShapeAll H n (fun e => datShape H n e) e
      simp only [PyData.canLay0, PyData.depth]
      exact ⟨this.1, by omega⟩
    · cases e
  | n, .fn k, d, e => by cases n <;> simp [datOf] at e
  | n, .exc k, d, e => by cases n <;> simp [datOf] at e

theorem shaped_of_dat {H : Hp} {n : Nat} {x : V} {d : PyData} (e : datOf H n x = some d) (hn : n ≤ 60) : SeqAt.shaped d = true := by
  have := datShape H n e
  unfold SeqAt.shaped
  rw [Bool.and_eq_true]
  exact ⟨this.1, decide_eq_true (by omega)⟩

section
variable {prog : Program} {w : World} {A : Around} {E : Value → Shared → Prop} {s : Shared} {G : GV} {α : List Addr} {H : Hp} {Q : V → Hp → Prop}

theorem cmp_sound {op : COp} {u v : Value} {x y : V} (hA : AOk A) (R : HR G α s.heap H) (ru : Rep G α s.heap u x) (rv : Rep G α s.heap v y) (q : cmpWp op x y H Q) :
    wpAny (model prog w) A (compareOp (cmpOf op) u v) (Post G (Rep G) s α H Q) E s := by
  have hu := hA.units
  have eqs : ∀ Q', eqWp x y H Q' → ∃ da db as bs, Reads s.heap u da as ∧ Reads s.heap v db bs ∧ datOf H 4 x = some da ∧ datOf H 4 y = some db ∧ Q' (PyData.eqv da db) := fun Q' q => by
    obtain ⟨da, db, e1, e2, q⟩ := q
    obtain ⟨as, r1⟩ := datReads R 4 ru e1
    obtain ⟨bs, r2⟩ := datReads R 4 rv e2
    exact ⟨da, db, as, bs, r1, r2, e1, e2, q⟩
  have hE : eqWp x y H (fun b => Q (.bool b) H) → wpAny (model prog w) A (compareOp .Eq u v) (Post G (Rep G) s α H Q) E s := fun q => by
    obtain ⟨da, db, as, bs, r1, r2, e1, e2, q⟩ := eqs _ q
    exact SeqAt.compareEq_shaped r1 r2 (shaped_of_dat e1 (by decide)) (shaped_of_dat e2 (by decide)) (by omega) (Post.same' R (.bool _) q)
  have hN : eqWp x y H (fun b => Q (.bool (!b)) H) → wpAny (model prog w) A (compareOp .NotEq u v) (Post G (Rep G) s α H Q) E s := fun q => by
    obtain ⟨da, db, as, bs, r1, r2, e1, e2, q⟩ := eqs _ q
    exact SeqAt.compareNe_shaped r1 r2 (shaped_of_dat e1 (by decide)) (shaped_of_dat e2 (by decide)) (by omega) (Post.same' R (.bool _) q)
  cases op
  · cases x <;> first | exact False.elim q | skip
    cases y <;> first | exact False.elim q | skip
    obtain ⟨t, rfl⟩ := ru.int_inv
    obtain ⟨t', rfl⟩ := rv.int_inv
    exact lt_int (Post.same' R (.bool _) q)
  · cases x <;> first | exact False.elim q | skip
    cases y <;> first | exact False.elim q | skip
    obtain ⟨t, rfl⟩ := ru.int_inv
    obtain ⟨t', rfl⟩ := rv.int_inv
    exact le_int (Post.same' R (.bool _) q)
  · cases x <;> first | exact False.elim q | skip
    cases y <;> first | exact False.elim q | skip
    obtain ⟨t, rfl⟩ := ru.int_inv
    obtain ⟨t', rfl⟩ := rv.int_inv
    exact gt_int (Post.same' R (.bool _) q)
  · cases x <;> first | exact False.elim q | skip
    cases y <;> first | exact False.elim q | skip
    obtain ⟨t, rfl⟩ := ru.int_inv
    obtain ⟨t', rfl⟩ := rv.int_inv
    exact ge_int (Post.same' R (.bool _) q)
  · cases x <;> first | exact hE q | skip
    cases y <;> first | exact hE q | skip
    obtain ⟨t, rfl⟩ := ru.int_inv
    obtain ⟨t', rfl⟩ := rv.int_inv
    exact eq_int (Post.same' R (.bool _) q)
  · cases x <;> first | exact hN q | skip
    cases y <;> first | exact hN q | skip
    obtain ⟨t, rfl⟩ := ru.int_inv
    obtain ⟨t', rfl⟩ := rv.int_inv
    exact ne_int (Post.same' R (.bool _) q)
  · cases y <;> first | exact False.elim q | skip
    obtain ⟨da, ds, e1, e2, hn, q⟩ := q
    obtain ⟨as, r1⟩ := datReads R 3 ru e1
    obtain ⟨bs, r2⟩ := datReads R 4 rv e2
    refine in_list_dataH r2 r1 (shaped_of_dat e2 (by decide)) (shaped_of_dat e1 (by decide)) (by omega) hn (Post.same' R (.bool _) ?_)
    rw [← any_eqv_countIn da ds hn]; exact q
  · cases y <;> first | exact False.elim q | skip
    obtain ⟨da, ds, e1, e2, hn, q⟩ := q
    obtain ⟨as, r1⟩ := datReads R 3 ru e1
    obtain ⟨bs, r2⟩ := datReads R 4 rv e2
    refine notIn_list_dataH r2 r1 (shaped_of_dat e2 (by decide)) (shaped_of_dat e1 (by decide)) (by omega) hn (Post.same' R (.bool _) ?_)
    rw [any_eqv_countIn da ds hn] at q
    exact q
  · cases y <;> first | exact False.elim q | skip
    cases rv.none_inv
    refine is_none (Post.same' R (.bool _) ?_)
    cases ru <;> exact q

theorem truth_sound {u : Value} {x : V} {t : Bool} {Z : Bool → Shared → Prop} (R : HR G α s.heap H) (ru : Rep G α s.heap u x) (e : truthV H x = some t) (h : ∀ tk, Z t { s with toks := tk }) :
    wpAny (model prog w) A (truthy u) Z E s := by
  cases ru with
  | int i tk => simp [truthV] at e; subst e; exact truthy_int (h s.toks)
  | bool b => simp [truthV] at e; subst e; exact wpAny_truthy_bool (h s.toks)
  | none => simp [truthV] at e; subst e; exact fun _ _ _ => h s.toks
  | str z tk => simp [truthV] at e
  | tup ht q z =>
    simp only [truthV, Option.some.injEq] at e; subst e
    have hl := q.len
    refine truthy_tuple ht (by have : _ ≤ 1000000 := z; simp; omega) ?_
    rename_i vs xs
    have : (!vs.toArray.isEmpty) = !xs.isEmpty := by cases q <;> simp
    rw [this]; exact h _
  | lst ha =>
    simp only [truthV, Option.map_eq_some_iff] at e
    obtain ⟨xs, hx, rfl⟩ := e
    obtain ⟨vs, l, q, z, z'⟩ := R.getList ha hx
    refine wpAny_truthy_list l (by have : _ ≤ 1000000 := z'; simp; omega) ?_
    have : (!vs.toArray.isEmpty) = !xs.isEmpty := by cases q <;> simp
    rw [this]; exact h _
  | fn _ => simp [truthV] at e
end
end Mine

set_option autoImplicit false
set_option linter.unusedVariables false
namespace Mine
open PySem PyProof.Rows PySem.Calls

noncomputable def SC (X : SX) (c : MC) (pe : PE) (e : Expr) : Prop :=
  ∀ (env : Env) (s : Shared) (α : List Addr) (ρ : Loc) (H : Hp) (Q : Bool → Hp → Prop) (E : Value → Shared → Prop), EnvOk c env → GF X.G c.g X.DT s.heap → HR X.G α s.heap H → FI X.G c env α s.heap ρ →
    wpE X.sub X.Φ pe ρ H (fun v H' => ifSome (truthV H' v) fun t => Q t H') → wpAny (model X.prog X.w) X.A (isTrue e env (eval e env)) (Post X.G (fun _ _ a b => a = b) s α H Q) E s

noncomputable def PlainTest (e : Expr) : Prop := ∀ (env : Env) (whole : Sem Value), isTrue e env whole = (do let v ← whole; standAt e.pos; holding [v] (truthy v))

section
variable {X : SX} {c : MC}

theorem sc_of_se {pe : PE} {e : Expr} (h : SE X c pe e) (he : PlainTest e) : SC X c pe e := fun env s α ρ H Q E O T R F q => by
  refine wpAny_isTrue_value (wpAny_mono (h env s α ρ H _ E O T R F q) (fun v s₁ p => ?_) fun _ _ x => x) (he env _)
  obtain ⟨h₁, tk₁, β, K, d, rfl, k, f, R', r, q⟩ := p
  obtain ⟨t, e, q⟩ := ifSome.get q
  exact truth_sound (s := { s with heap := h₁, toks := tk₁ }) R' r e fun tk => ⟨h₁, tk, β, K, t, rfl, k, f, R', rfl, q⟩

theorem se_bin {op : BOp} {a b : PE} {l r : Expr} {pos : Pos} (h1 : SE X c a l) (h2 : SE X c b r) : SE X c (.bin op a b) (.BinOp l (opOf op) r pos) := fun env s α ρ H Q E O T R F q => by
  refine wpAny_BinOp (two h1 h2 O T R F (Q := fun x y H2 => binWp op x y H2 Q) q fun h' tk β K u v x y k f R' ru rv q' => ?_)
  exact wpAny_mono (binOp_sound (s := { s with heap := h', toks := tk }) R' ru rv q') (fun _ _ p => p.trans k f) fun _ _ x => x

theorem se_neg {a : PE} {l : Expr} {pos : Pos} (h1 : SE X c a l) : SE X c (.neg a) (.UnaryOp .USub l pos) := fun env s α ρ H Q E O T R F q => by
  refine wpAny_UnaryOp (wpAny_mono (h1 env s α ρ H _ E O T R F q) (fun v s₁ p => ?_) fun _ _ x => x)
  refine p.then fun h₁ tk₁ β K d k f R' r q' => ?_
  cases d <;> first | exact q'.elim | skip
  cases r
  exact neg_int (Post.same R' (.int _ _) q' _)

theorem se_nt {a : PE} {l : Expr} {pos : Pos} (h1 : SE X c a l) : SE X c (.nt a) (.UnaryOp .Not l pos) := fun env s α ρ H Q E O T R F q => by
  refine wpAny_UnaryOp (wpAny_mono (h1 env s α ρ H _ E O T R F q) (fun v s₁ p => ?_) fun _ _ x => x)
  refine p.then fun h₁ tk₁ β K d k f R' r q' => ?_
  obtain ⟨t, e, q'⟩ := ifSome.get q'
  exact not_value (truth_sound (s := { s with heap := h₁, toks := tk₁ }) R' r e fun tk => Post.same (s := { s with heap := h₁, toks := tk₁ }) R' (.bool _) q' tk)
theorem sc_nt {a : PE} {l : Expr} {pos : Pos} (h1 : SC X c a l) : SC X c (.nt a) (.UnaryOp .Not l pos) := fun env s α ρ H Q E O T R F q => by
  refine wpAny_isTrue_Not (wpAny_mono (h1 env s α ρ H (fun t => Q (!t)) E O T R F ?_) (fun v s₁ p => ?_) fun _ _ x => x)
  · exact q
  · obtain ⟨h₁, tk₁, β, K, d, rfl, k, f, R', rfl, q'⟩ := p
    exact ⟨h₁, tk₁, β, K, _, rfl, k, f, R', rfl, q'⟩

theorem se_cmp {op : COp} {a b : PE} {l r : Expr} {pos : Pos} (hA : AOk X.A) (hm : behindInMarks (cmpOf op) r = false) (h1 : SE X c a l) (h2 : SE X c b r) : SE X c (.cmp op a b) (.Compare l [cmpOf op] [r] pos) := fun env s α ρ H Q E O T R F q => by
  refine wpAny_Compare1 (two h1 h2 O T R F (Q := fun x y H2 => cmpWp op x y H2 Q) q fun h' tk β K u v x y k f R' ru rv q' => ?_) hm
  exact wpAny_mono (cmp_sound (s := { s with heap := h', toks := tk }) hA R' ru rv q') (fun _ _ p => p.trans k f) fun _ _ x => x
theorem sc_cmp {op : COp} {a b : PE} {l r : Expr} {pos : Pos} (hA : AOk X.A) (hm : behindInMarks (cmpOf op) r = false) (h1 : SE X c a l) (h2 : SE X c b r) : SC X c (.cmp op a b) (.Compare l [cmpOf op] [r] pos) := fun env s α ρ H Q E O T R F q => by
  refine wpAny_isTrue_Compare1 (two h1 h2 O T R F (Q := fun x y H2 => cmpWp op x y H2 _) q fun h' tk β K u v x y k f R' ru rv q' => ?_) hm
  refine wpAny_mono (cmp_sound (s := { s with heap := h', toks := tk }) hA R' ru rv q') (fun v s₁ p => ?_) fun _ _ x => x
  obtain ⟨h₂, tk₂, β₂, K₂, d, rfl, k₂, f₂, R₂, r₂, q₂⟩ := p
  obtain ⟨t, e, q₂⟩ := ifSome.get q₂
  refine truth_sound (s := { s with heap := h₂, toks := tk₂ }) R₂ r₂ e fun tk' => ?_
  exact Post.trans (tk₁ := tk) k f ⟨h₂, tk', β₂, K₂, t, rfl, k₂, f₂, R₂, rfl, q₂⟩

/-! and, or -/
noncomputable def SAll (X : SX) (c : MC) (b : Bool) (ps : PEs) (es : List Expr) : Prop :=
  ∀ (env : Env) (s : Shared) (α : List Addr) (ρ : Loc) (H : Hp) (Q : V → Hp → Prop) (E : Value → Shared → Prop) (pos : Pos), EnvOk c env → GF X.G c.g X.DT s.heap → HR X.G α s.heap H → FI X.G c env α s.heap ρ →
    wpAll X.sub X.Φ b ps ρ H Q → wpAny (model X.prog X.w) X.A (boolOp pos (if b then .And else .Or) (evalEach es env)) (Post X.G (Rep X.G) s α H Q) E s
noncomputable def SAllC (X : SX) (c : MC) (b : Bool) (ps : PEs) (es : List Expr) : Prop :=
  ∀ (env : Env) (s : Shared) (α : List Addr) (ρ : Loc) (H : Hp) (Q : Bool → Hp → Prop) (E : Value → Shared → Prop), EnvOk c env → GF X.G c.g X.DT s.heap → HR X.G α s.heap H → FI X.G c env α s.heap ρ →
    wpAll X.sub X.Φ b ps ρ H (fun v H' => ifSome (truthV H' v) fun t => Q t H') → wpAny (model X.prog X.w) X.A (allTrue (if b then .And else .Or) es env) (Post X.G (fun _ _ a b => a = b) s α H Q) E s

theorem sall_nil {b : Bool} : SAll X c b .nil [] := fun env s α ρ H Q E pos O T R F q => (by simp [wpAll] at q)
theorem sallc_nil {b : Bool} : SAllC X c b .nil [] := fun env s α ρ H Q E O T R F q => (by simp [wpAll] at q)
theorem sall_one {b : Bool} {a : PE} {e : Expr} (h : SE X c a e) : SAll X c b (.cons a .nil) [e] := fun env s α ρ H Q E pos O T R F q => by
  simp only [wpAll] at q
  cases b <;> exact h env s α ρ H Q E O T R F q
theorem sall_cons {b : Bool} {a a2 : PE} {r : PEs} {e e2 : Expr} {es : List Expr} (h1 : SE X c a e) (h2 : SAll X c b (.cons a2 r) (e2 :: es)) : SAll X c b (.cons a (.cons a2 r)) (e :: e2 :: es) := fun env s α ρ H Q E pos O T R F q => by
  simp only [wpAll] at q
  have key : wpAny (model X.prog X.w) X.A (eval e env >>= fun v => do
      standAt pos
      let t ← holding [v] (truthy v)
      match (if b then BoolOp.And else BoolOp.Or), t with
      | .And, false | .Or, true => pure v
      | _, _ => boolOp pos (if b then .And else .Or) (evalEach (e2 :: es) env)) (Post X.G (Rep X.G) s α H Q) E s := by
    refine wpAny_bind (wpAny_mono (h1 env s α ρ H _ E O T R F q) (fun v s₁ p => ?_) fun _ _ x => x)
    refine p.then fun h₁ tk₁ β K d k f R' rr q' => ?_
    obtain ⟨t, e, q'⟩ := ifSome.get q'
    refine wpAny_bind (wpAny_standAt (wpAny_bind (wpAny_holding (truth_sound (s := { s with heap := h₁, toks := tk₁ }) R' rr e fun tk => ?_))))
    have step : wpAny (model X.prog X.w) X.A (boolOp pos (if b then .And else .Or) (evalEach (e2 :: es) env)) (Post X.G (Rep X.G) { s with heap := h₁, toks := tk } (α ++ β) (H ++ K) Q) E { s with heap := h₁, toks := tk } →
        wpAny (model X.prog X.w) X.A (boolOp pos (if b then .And else .Or) (evalEach (e2 :: es) env)) (Post X.G (Rep X.G) { s with heap := h₁, toks := tk₁ } (α ++ β) (H ++ K) Q) E { s with heap := h₁, toks := tk } := fun h =>
      wpAny_mono h (fun _ _ ⟨h', tk', β', K', d', e', a', b', c', r', q''⟩ => ⟨h', tk', β', K', d', e', a', b', c', r', q''⟩) fun _ _ x => x
    cases b <;> cases t <;> simp only [Bool.false_eq_true, Bool.true_eq_false, if_true, if_false] at q' ⊢
    · exact step (h2 env { s with heap := h₁, toks := tk } (α ++ β) ρ (H ++ K) Q E pos O (T.keeps k) R' (F.up k) q')
    · exact wpAny_pure (Post.same (s := { s with heap := h₁, toks := tk₁ }) R' rr q' tk)
    · exact wpAny_pure (Post.same (s := { s with heap := h₁, toks := tk₁ }) R' rr q' tk)
    · exact step (h2 env { s with heap := h₁, toks := tk } (α ++ β) ρ (H ++ K) Q E pos O (T.keeps k) R' (F.up k) q')
  exact key
theorem sallc_one {b : Bool} {a : PE} {e : Expr} (h : SC X c a e) : SAllC X c b (.cons a .nil) [e] := fun env s α ρ H Q E O T R F q => by
  simp only [wpAll] at q
  cases b
  · refine wpAny_allTrue_Or_cons (wpAny_mono (h env s α ρ H Q E O T R F q) (fun v s₁ p => ?_) fun _ _ x => x)
    cases v
    · exact wpAny_allTrue_Or_nil p
    · exact p
  · refine wpAny_allTrue_And_cons (wpAny_mono (h env s α ρ H Q E O T R F q) (fun v s₁ p => ?_) fun _ _ x => x)
    cases v
    · exact p
    · exact wpAny_allTrue_And_nil p
theorem sallc_cons {b : Bool} {a a2 : PE} {r : PEs} {e e2 : Expr} {es : List Expr} (h1 : SC X c a e) (h2 : SAllC X c b (.cons a2 r) (e2 :: es)) : SAllC X c b (.cons a (.cons a2 r)) (e :: e2 :: es) := fun env s α ρ H Q E O T R F q => by
  simp only [wpAll] at q
  have e0 : (fun (v : V) (H1 : Hp) => ifSome (truthV H1 v) fun t => if t = b then wpAll X.sub X.Φ b (.cons a2 r) ρ H1 (fun v H' => ifSome (truthV H' v) fun t => Q t H') else ifSome (truthV H1 v) fun t => Q t H1) =
      fun v H1 => ifSome (truthV H1 v) fun t => if t = b then wpAll X.sub X.Φ b (.cons a2 r) ρ H1 (fun v H' => ifSome (truthV H' v) fun t => Q t H') else Q t H1 := by
    funext v H1
    generalize truthV H1 v = o
    cases o <;> rfl
  rw [e0] at q
  have h := h1 env s α ρ H _ E O T R F q
  cases b
  · refine wpAny_allTrue_Or_cons (wpAny_mono h (fun v s₁ p => ?_) fun _ _ x => x)
    cases v
    · simp only [Bool.false_eq_true, if_false]
      refine p.then fun h₁ tk₁ β K d k f R' rr q' => ?_
      subst rr
      simp only [if_true] at q'
      exact h2 env { s with heap := h₁, toks := tk₁ } (α ++ β) ρ (H ++ K) Q E O (T.keeps k) R' (F.up k) q'
    · obtain ⟨h', tk', β', K', d', e', k', f', R', rfl, q'⟩ := p
      exact ⟨h', tk', β', K', _, e', k', f', R', rfl, q'⟩
  · refine wpAny_allTrue_And_cons (wpAny_mono h (fun v s₁ p => ?_) fun _ _ x => x)
    cases v
    · obtain ⟨h', tk', β', K', d', e', k', f', R', rfl, q'⟩ := p
      exact ⟨h', tk', β', K', _, e', k', f', R', rfl, q'⟩
    · simp only [if_true]
      refine p.then fun h₁ tk₁ β K d k f R' rr q' => ?_
      subst rr
      simp only [if_true] at q'
      exact h2 env { s with heap := h₁, toks := tk₁ } (α ++ β) ρ (H ++ K) Q E O (T.keeps k) R' (F.up k) q'
theorem se_and {ps : PEs} {es : List Expr} {pos : Pos} (h : SAll X c true ps es) : SE X c (.and ps) (.BoolOp .And es pos) := fun env s α ρ H Q E O T R F q => by
  rw [arm_eval_BoolOp]; exact h env s α ρ H Q E pos O T R F (by simpa only [wpE] using q)
theorem se_or {ps : PEs} {es : List Expr} {pos : Pos} (h : SAll X c false ps es) : SE X c (.or ps) (.BoolOp .Or es pos) := fun env s α ρ H Q E O T R F q => by
  rw [arm_eval_BoolOp]; exact h env s α ρ H Q E pos O T R F (by simpa only [wpE] using q)
theorem sc_and {ps : PEs} {es : List Expr} {pos : Pos} (h : SAllC X c true ps es) : SC X c (.and ps) (.BoolOp .And es pos) := fun env s α ρ H Q E O T R F q =>
  wpAny_isTrue_BoolOp (h env s α ρ H Q E O T R F (by simpa only [wpE] using q))
theorem sc_or {ps : PEs} {es : List Expr} {pos : Pos} (h : SAllC X c false ps es) : SC X c (.or ps) (.BoolOp .Or es pos) := fun env s α ρ H Q E O T R F q =>
  wpAny_isTrue_BoolOp (h env s α ρ H Q E O T R F (by simpa only [wpE] using q))
end
end Mine

set_option autoImplicit false
set_option linter.unusedVariables false
namespace Mine
open PySem PyProof.Rows PySem.Calls

noncomputable def notStar (e : Expr) : Bool := match e with | .Starred .. => false | _ => true
noncomputable def noStar (es : List Expr) : Bool := es.all notStar
theorem starEach_cons {e : Expr} {es : List Expr} {env : Env} (h : notStar e = true) : starEach (e :: es) env = (false, eval e env) :: starEach es env := by
  cases e <;> first | rfl | cases h
theorem star_any {pos : Pos} {env : Env} : ∀ {es : List Expr}, noStar es = true → (backTo pos (starEach es env)).any (·.1) = false
  | [], _ => rfl
  | e :: es, h => by
    simp only [noStar, List.all_cons, Bool.and_eq_true] at h
    rw [starEach_cons h.1]
    show (false || (backTo pos (starEach es env)).any (·.1)) = false
    rw [star_any h.2]; rfl

section
variable {X : SX} {c : MC}

/-- a call of an own def -/
theorem call_fn {f : Nat} {x : Str} {ps : PEs} {e : Expr} {es : List Expr} {pos : Pos} (hΦ : SCall X.prog X.w X.G c.g X.DT X.A X.Φ) (hf : c.g.fns[f]? = some x) (hn : notStar e = true) (h : SEs X c ps (e :: es))
    (env : Env) (s : Shared) (α : List Addr) (ρ : Loc) (H : Hp) (Q : V → Hp → Prop) (E : Value → Shared → Prop) (O : EnvOk c env) (T : GF X.G c.g X.DT s.heap) (R : HR X.G α s.heap H) (F : FI X.G c env α s.heap ρ)
    (q : wpEs X.sub X.Φ ps ρ H fun vs H1 => X.Φ f vs H1 Q fun _ _ => False) :
    wpAny (model X.prog X.w) X.A (callWith pos (.ref (X.G.fa f)) [] (backTo pos (starEach (e :: es) env)) []) (Post X.G (Rep X.G) s α H Q) E s := by
  obtain ⟨_, d, o, pm, cd, doc, _, _, ho, hd, _⟩ := T.fn f x hf
  refine callWith_def hd (wpAny_mono (h env s α ρ H _ E pos O T R F q) (fun vs s₁ p => ?_) fun _ _ y => y) (starEach_cons hn)
  obtain ⟨h₁, tk₁, β, K, ds, rfl, k, f', R', r, q'⟩ := p
  refine ⟨k _ _ ho, ?_⟩
  exact wpAny_mono (hΦ f x ds (H ++ K) Q hf q' { s with heap := h₁, toks := tk₁ } (α ++ β) vs E (T.keeps k) R' r.1) (fun _ _ p => p.trans k f') fun _ _ y => y

theorem se_call {f : Nat} {x : Str} {ps : PEs} {e : Expr} {es : List Expr} {p pos : Pos} (hΦ : SCall X.prog X.w X.G c.g X.DT X.A X.Φ) (hf : c.g.fns[f]? = some x) (hx : c.isGlob x = true) (hn : notStar e = true) (h : SEs X c ps (e :: es)) :
    SE X c (.call f ps) (.Call (.Name x p) (e :: es) [] pos) := fun env s α ρ H Q E O T R F q =>
  Call_ (load_glob O hx T.g (T.fn f x hf).1 (call_fn hΦ hf hn h env s α ρ H Q E O T R F (by simpa only [wpE] using q)))

theorem bootAbs : bootBuiltins "abs" = some (.builtin "abs") := by boot_by_name
theorem bootLen : bootBuiltins "len" = some (.builtin "len") := by boot_by_name
theorem bootInt : bootBuiltins "int" = some (.type "int") := by boot_by_name
theorem bootList : bootBuiltins "list" = some (.type "list") := by boot_by_name
theorem bootTuple : bootBuiltins "tuple" = some (.type "tuple") := by boot_by_name
theorem bootMin : bootBuiltins "min" = some (.builtin "min") := by boot_by_name
theorem bootIsi : bootBuiltins "isinstance" = some (.builtin "isinstance") := by boot_by_name
theorem bootBool : bootBuiltins "bool" = some (.type "bool") := by boot_by_name

/-- a built-in's name -/
theorem load_b {x : Str} {v : Value} {pos : Pos} {env : Env} {s : Shared} {Q : Value → Shared → Prop} {E : Value → Shared → Prop} (hb : bootBuiltins x = some v) (hm : x ∈ bltNames) (hx : c.isGlob x = true) (O : EnvOk c env) (T : GF X.G c.g X.DT s.heap) (h : Q v s) :
    wpAny (model X.prog X.w) X.A (eval (.Name x pos) env) Q E s :=
  load_blt O hx T.g (T.blt x hm).1 T.b ((T.blt x hm).2.trans hb) h

/-- a call of a built-in function -/
theorem call_b {x : Str} {id : String} {ps : PEs} {e : Expr} {es : List Expr} {p pos : Pos} {env : Env} {s : Shared} {α : List Addr} {ρ : Loc} {H : Hp} {Q : V → Hp → Prop} {Q1 : List V → Hp → Prop} {E : Value → Shared → Prop}
    (hb : bootBuiltins x = some (.builtin id)) (hm : x ∈ bltNames) (hx : c.isGlob x = true) (hn : noStar (e :: es) = true) (h : SEs X c ps (e :: es)) (O : EnvOk c env) (T : GF X.G c.g X.DT s.heap) (R : HR X.G α s.heap H) (F : FI X.G c env α s.heap ρ)
    (q : wpEs X.sub X.Φ ps ρ H Q1)
    (hz : ∀ h' tk β K vs ds, KeepsH s.heap h' → HR X.G (α ++ β) h' (H ++ K) → Reps X.G (α ++ β) h' vs ds → Q1 ds (H ++ K) →
      wpAny (model X.prog X.w) X.A (call (.builtin id) vs) (Post X.G (Rep X.G) { s with heap := h', toks := tk } (α ++ β) (H ++ K) Q) E { s with heap := h', toks := tk }) :
    wpAny (model X.prog X.w) X.A (eval (.Call (.Name x p) (e :: es) [] pos) env) (Post X.G (Rep X.G) s α H Q) E s := by
  simp only [noStar, List.all_cons, Bool.and_eq_true] at hn
  refine Call_ (load_b hb hm hx O T (callWith_builtin1 (wpAny_mono (h env s α ρ H _ E pos O T R F q) (fun vs s₁ p => ?_) fun _ _ y => y) (starEach_cons hn.1) (star_any hn.2)))
  exact p.then fun h₁ tk₁ β K d k f R' r q' => hz h₁ tk₁ β K vs d k R' r.1 q'
theorem call_t {x : Str} {id : String} {ps : PEs} {e : Expr} {es : List Expr} {p pos : Pos} {env : Env} {s : Shared} {α : List Addr} {ρ : Loc} {H : Hp} {Q : V → Hp → Prop} {Q1 : List V → Hp → Prop} {E : Value → Shared → Prop}
    (hb : bootBuiltins x = some (.type id)) (hm : x ∈ bltNames) (hx : c.isGlob x = true) (hn : noStar (e :: es) = true) (h : SEs X c ps (e :: es)) (O : EnvOk c env) (T : GF X.G c.g X.DT s.heap) (R : HR X.G α s.heap H) (F : FI X.G c env α s.heap ρ)
    (q : wpEs X.sub X.Φ ps ρ H Q1)
    (hz : ∀ h' tk β K vs ds, KeepsH s.heap h' → HR X.G (α ++ β) h' (H ++ K) → Reps X.G (α ++ β) h' vs ds → Q1 ds (H ++ K) →
      wpAny (model X.prog X.w) X.A (call (.type id) vs) (Post X.G (Rep X.G) { s with heap := h', toks := tk } (α ++ β) (H ++ K) Q) E { s with heap := h', toks := tk }) :
    wpAny (model X.prog X.w) X.A (eval (.Call (.Name x p) (e :: es) [] pos) env) (Post X.G (Rep X.G) s α H Q) E s := by
  simp only [noStar, List.all_cons, Bool.and_eq_true] at hn
  refine Call_ (load_b hb hm hx O T (callWith_type1 (wpAny_mono (h env s α ρ H _ E pos O T R F q) (fun vs s₁ p => ?_) fun _ _ y => y) (starEach_cons hn.1) (star_any hn.2)))
  exact p.then fun h₁ tk₁ β K d k f R' r q' => hz h₁ tk₁ β K vs d k R' r.1 q'
end
end Mine

set_option autoImplicit false
namespace Mine
open PySem PyProof PyProof.Rows

section
variable {prog : Program} {w : World} {A : Around} {E : Value → Shared → Prop} {s : Shared}

end
end Mine

set_option autoImplicit false
set_option linter.unusedVariables false
namespace Mine
open PySem PyProof.Rows PySem.Calls

section
variable {prog : Program} {w : World} {A : Around} {E : Value → Shared → Prop} {s : Shared} {G : GV} {α : List Addr} {H : Hp} {Q : V → Hp → Prop}

/-- list(x) -/
theorem list_of {v : Value} {d : V} {xs : List V} (R : HR G α s.heap H) (r : Rep G α s.heap v d) (e : items H d = some xs) (q : Q (.lst H.length) (H ++ [xs])) :
    wpAny (model prog w) A (call (.type "list") [v]) (Post G (Rep G) s α H Q) E s := by
  obtain ⟨a, vs, rfl, rs, z, z', hk⟩ := seqOf R r e
  have hsz : vs.toArray.size ≤ sizeLine := by rw [List.size_toArray]; exact Nat.le_trans z' lim_le
  have go : ∀ h' c', KeepsH s.heap h' → h'.get? s.heap.objs.size = some { cls := .type "list", dict := none, data := .seq vs.toArray c', slots := #[] } → Post G (Rep G) s α H Q (.ref s.heap.objs.size) { s with heap := h' } := fun h' c' k hg =>
    Post.newLst R k (rs.mono (fun _ _ e => e) (.of k)) z q (size_none _) ⟨c', hg⟩ s.toks
  rcases hk with ⟨⟨o, ho, hc, n, hd⟩, _⟩ | ⟨⟨o, ho, hc, n, hd⟩, _⟩
  · exact call_list_seq a (.inr rfl) ho hc hd go hsz
  · exact call_list_seq a (.inl rfl) ho hc hd go hsz
/-- tuple(x) -/
theorem tuple_of {v : Value} {d : V} {xs : List V} (R : HR G α s.heap H) (r : Rep G α s.heap v d) (e : items H d = some xs) (q : Q (.tup xs) H) :
    wpAny (model prog w) A (call (.type "tuple") [v]) (Post G (Rep G) s α H Q) E s := by
  obtain ⟨a, vs, rfl, rs, z, z', hk⟩ := seqOf R r e
  have hsz : vs.toArray.size ≤ sizeLine := by rw [List.size_toArray]; exact Nat.le_trans z' lim_le
  rcases hk with ⟨ht, ys, rfl⟩ | ⟨hl, n, rfl⟩
  · cases e
    exact call_tuple_tup ht (Post.same' R r q)
  · refine call_tuple_list hl (fun h' k => ?_) hsz
    have k2 : KeepsH s.heap (h'.push { cls := .type "tuple", data := .seq vs.toArray }) := KeepsH.trans k (keeps_push _ _)
    refine ⟨_, s.toks, [], [], .tup xs, rfl, k2, by simp, by simpa using R.keeps k2, ?_, by simpa using q⟩
    exact Rep.tup (vs := vs) ⟨_, Heap.get?_push_size _ rfl, rfl, _, rfl⟩ (rs.up k2) z
/-- len(x) -/
theorem len_of {v : Value} {d : V} {xs : List V} (R : HR G α s.heap H) (r : Rep G α s.heap v d) (e : items H d = some xs) (q : Q (.int xs.length) H) :
    wpAny (model prog w) A (call (.builtin "len") [v]) (Post G (Rep G) s α H Q) E s := by
  obtain ⟨a, vs, rfl, rs, z, z', hk⟩ := seqOf R r e
  have hz : (vs.toArray.size : Int) < 2 ^ 63 := by have : vs.length ≤ 1000000 := z'; simp; omega
  have hl : ((vs.toArray.size : Nat) : Int) = xs.length := by simp [rs.len]
  rcases hk with ⟨ht, _⟩ | ⟨hl', _⟩
  · exact len_tuple ht hz (by rw [hl]; exact Post.same R (.int _ _) q _)
  · exact len_list hl' hz (by rw [hl]; exact Post.same R (.int _ _) q _)

theorem bi_sound {b : Bi} {vs : List Value} {ds : List V} (hA : AOk A) (R : HR G α s.heap H) (r : Reps G α s.heap vs ds) (q : biWp b ds H Q) :
    match b with
    | .abs => wpAny (model prog w) A (call (.builtin "abs") vs) (Post G (Rep G) s α H Q) E s
    | .len => wpAny (model prog w) A (call (.builtin "len") vs) (Post G (Rep G) s α H Q) E s
    | .int => wpAny (model prog w) A (call (.type "int") vs) (Post G (Rep G) s α H Q) E s
    | .list => wpAny (model prog w) A (call (.type "list") vs) (Post G (Rep G) s α H Q) E s
    | .tuple => wpAny (model prog w) A (call (.type "tuple") vs) (Post G (Rep G) s α H Q) E s
    | .min => wpAny (model prog w) A (call (.builtin "min") vs) (Post G (Rep G) s α H Q) E s
    | .listrev => True := by
  cases b
  · rcases ds with _ | ⟨d, _ | ⟨_, _⟩⟩ <;> first | exact False.elim q | skip
    · cases d <;> first | exact False.elim q | skip
      obtain ⟨v, rfl, a⟩ := r.one_inv
      obtain ⟨t, rfl⟩ := a.int_inv
      exact call_abs_int fun u tk => Post.same R (.int _ _) q tk
    · cases d <;> exact False.elim q
  · rcases ds with _ | ⟨d, _ | ⟨_, _⟩⟩ <;> first | exact False.elim q | skip
    obtain ⟨v, rfl, a⟩ := r.one_inv
    obtain ⟨xs, e, q⟩ := ifSome.get q; exact len_of R a e q
  · rcases ds with _ | ⟨d, _ | ⟨_, _⟩⟩ <;> first | exact False.elim q | skip
    · cases d <;> first | exact False.elim q | skip
      obtain ⟨v, rfl, a⟩ := r.one_inv
      cases a.bool_inv
      exact call_int_bool (Post.same R (.int _ _) q _)
    · cases d <;> exact False.elim q
  · rcases ds with _ | ⟨d, _ | ⟨_, _⟩⟩ <;> first | exact False.elim q | skip
    obtain ⟨v, rfl, a⟩ := r.one_inv
    obtain ⟨xs, e, q⟩ := ifSome.get q; exact list_of R a e q
  · rcases ds with _ | ⟨d, _ | ⟨_, _⟩⟩ <;> first | exact False.elim q | skip
    obtain ⟨v, rfl, a⟩ := r.one_inv
    obtain ⟨xs, e, q⟩ := ifSome.get q; exact tuple_of R a e q
  · rcases ds with _ | ⟨d, _ | ⟨d', _ | ⟨_, _⟩⟩⟩ <;> first | exact False.elim q | (cases d <;> first | exact False.elim q | skip)
    all_goals (cases d' <;> first | exact False.elim q | skip)
    obtain ⟨v, v', rfl, a, a'⟩ := r.two_inv
    obtain ⟨tx, rfl⟩ := a.int_inv
    obtain ⟨ty, rfl⟩ := a'.int_inv
    rename_i x y
    refine min_two_ints hA.handled fun h' tk k => ?_
    have : (if y < x then Value.int y ty else Value.int x tx) = Value.int (if y < x then y else x) (if y < x then ty else tx) := by split <;> rfl
    rw [this]
    exact ⟨h', tk, [], [], _, rfl, k, List.forall_mem_nil _, by rw [List.append_nil, List.append_nil]; exact R.keeps k, .int _ _, by rw [List.append_nil]; exact q⟩
  · trivial

theorem place_spec {n i : Nat} {k : Int} (h : place n k = some i) : i < n ∧ ((0 ≤ k ∧ k = i) ∨ (k < 0 ∧ k + n = i)) := by
  unfold place at h
  split at h
  · split at h
    · cases h; omega
    · cases h
  · split at h
    · cases h; omega
    · cases h
theorem place_seq {n i : Nat} {k : Int} (h : place n k = some i) : seqIndex? k n = some i := by
  obtain ⟨h1, h2⟩ := place_spec h
  unfold seqIndex?
  rcases h2 with ⟨h0, h2⟩ | ⟨h0, h2⟩
  · have : ¬ k < 0 := by omega
    simp only [this, if_false, Bool.and_eq_true, decide_eq_true_eq]
    rw [if_pos ⟨h0, by omega⟩]; congr 1; omega
  · simp only [h0, if_true, Bool.and_eq_true, decide_eq_true_eq]
    rw [if_pos ⟨by omega, by omega⟩]; congr 1; omega

/-- x[k] -/
theorem idx_sound {value slice : Expr} {u v : Value} {x y : V} (hs : ∀ o i, subscripted slice false o i = operate [o, i] (getItem o i)) (R : HR G α s.heap H) (ru : Rep G α s.heap u x) (rv : Rep G α s.heap v y) (q : idxWp x y H Q) :
    wpAny (model prog w) A (subscriptTail value slice u v) (Post G (Rep G) s α H Q) E s := by
  cases rv with
  | int k t =>
    · obtain ⟨xs, e, q⟩ := ifSome.get q
      obtain ⟨i, hp, q⟩ := ifSome.get q
      obtain ⟨d, hd, q⟩ := ifSome.get q
      obtain ⟨a, vs, rfl, rs, z, z', hk⟩ := seqOf R ru e
      obtain ⟨val, hval, rd⟩ := rs.get hd
      have hz : vs.length ≤ 1000000 := z'
      have hlen := rs.len
      rw [← hlen] at hp
      obtain ⟨h1, h2⟩ := place_spec hp
      have hval' : vs.toArray[i]? = some val := by simpa using hval
      have b1 : -(2 ^ 63) ≤ k := by omega
      have b2 : k < 2 ^ 63 := by omega
      rcases hk with ⟨ht, _⟩ | ⟨hl, _⟩
      · exact item_tupleT (j := i) ht b1 b2 (place_seq hp) hval (Post.same' R rd q) (hs _ _)
      · rcases h2 with ⟨h0, h2⟩ | ⟨h0, h2⟩
        · exact tail_any hl.typeIs slot_list_getitem.lookup (wpAny_getItem_list hl h0 b2 (by rw [show k.toNat = i by omega]; exact hval') (Post.same' R rd q)) (hs _ _)
        · refine tail_any hl.typeIs slot_list_getitem.lookup (wpAny_getItem_list_neg hl h0 (by simp; omega) b1 ?_ (Post.same' R rd q)) (hs _ _)
          rw [show (k + (vs.toArray.size : Int)).toNat = i by simp; omega]; exact hval'
  | _ => exact False.elim q

end
end Mine

set_option autoImplicit false
set_option linter.unusedVariables false
set_option maxRecDepth 100000
namespace Mine
open PySem PyProof.Rows PySem.Calls

noncomputable def IsRv (h : Heap) (a t : Addr) (i : Int) : Prop := ∃ o, h.get? a = some o ∧ o.cls = .type "reversed" ∧ o.data = .fields #[.ref t, rawInt i]

section
variable {prog : Program} {w : World} {A : Around} {E : Value → Shared → Prop} {s : Shared}
theorem IsRv.typeIs {a t : Addr} {i : Int} (x : IsRv s.heap a t i) : s.TypeIs (.ref a) "reversed" := let ⟨o, ho, hc, _⟩ := x; ⟨o, ho, hc⟩
theorem IsRv.at {h h' : Heap} {a t : Addr} {i : Int} (x : IsRv h a t i) (e : ∀ o, h.get? a = some o → h'.get? a = some o) : IsRv h' a t i := let ⟨o, ho, r⟩ := x; ⟨o, e _ ho, r⟩

end
end Mine

set_option autoImplicit false
set_option linter.unusedVariables false
namespace Mine
open PySem PyProof.Rows PySem.Calls

section
variable {prog : Program} {w : World} {A : Around} {E : Value → Shared → Prop} {s : Shared} {G : GV} {α : List Addr} {H : Hp}

end

section
variable {X : SX} {c : MC}
end
end Mine

set_option autoImplicit false
set_option linter.unusedVariables false
namespace Mine
open PySem PyProof.Rows PySem.Calls

/-! what is no list and no tuple may turn -/
noncomputable def KeepsLT (h h' : Heap) : Prop := ∀ a o items n, h.get? a = some o → o.data = .seq items n → h'.get? a = some o
theorem KeepsLT.of {h h' : Heap} (k : KeepsH h h') : KeepsLT h h' := fun a o _ _ e _ => k a o e
theorem KeepsLT.trans {h h' h'' : Heap} (a : KeepsLT h h') (b : KeepsLT h' h'') : KeepsLT h h'' := fun x o _ _ e d => b x o _ _ (a x o _ _ e d) d
theorem KeepsLT.tup {h h' : Heap} (k : KeepsLT h h') : KeepsT h h' := fun a items ⟨o, ho, hc, n, hd⟩ => ⟨o, k a o _ _ ho hd, hc, n, hd⟩
theorem KeepsLT.list {h h' : Heap} (k : KeepsLT h h') {a : Addr} {items : Array Value} (x : h.IsList a items) : h'.IsList a items := let ⟨o, ho, hc, n, hd⟩ := x; ⟨o, k a o _ _ ho hd, hc, n, hd⟩
theorem KeepsLT.plain {h h' : Heap} (k : KeepsLT h h') {a : Addr} {items : Array Value} (x : h.PlainList a items) : h'.PlainList a items := let ⟨n, e⟩ := x; ⟨n, k a _ _ _ e rfl⟩
theorem HR.lt' {G : GV} {α : List Addr} {h h' : Heap} {H : Hp} (r : HR G α h H) (k : KeepsLT h h') : HR G α h' H :=
  ⟨r.len, r.nodup, r.pos, fun n a xs e1 e2 => let ⟨vs, l, q, z, p⟩ := r.lst n a xs e1 e2; ⟨vs, k.list l, q.mono (fun _ _ e => e) k.tup, z, fun hn => k.plain (p hn)⟩⟩
theorem KeepsLT.sameBut {h h' : Heap} {b : Addr} (hs : Heap.SameBut b h h') (hb : ∀ o, h.get? b = some o → ∀ items n, o.data ≠ .seq items n) : KeepsLT h h' := fun a o items n e d => by
  by_cases hab : a = b
  · subst hab; exact absurd d (hb o e items n)
  · exact hs.extBut a o hab e
theorem ns_notSeq {h : Heap} {b : Addr} {m : Str → Option Value} (hn : h.Ns b m) : ∀ o, h.get? b = some o → ∀ items n, o.data ≠ .seq items n := fun o e items n d => by
  obtain ⟨o', es, ep, ho, hd, _⟩ := hn
  rw [ho] at e; cases e; rw [hd] at d; cases d

/-! the names of a comprehension's scope -/
theorem lookup_relabel {env : Env} : ∀ {names : List (Str × NameKind)} {x : Str} {k : NameKind}, names.lookup x = some k →
    (names.map fun (n, k) => if (k == NameKind.free && env.scope.kind == .function && env.kindOf n == some .cell) then (n, NameKind.cell) else (n, k)).lookup x =
      some (if (k == NameKind.free && env.scope.kind == .function && env.kindOf x == some .cell) then NameKind.cell else k)
  | [], _, _, h => by simp at h
  | (n, k') :: r, x, k, h => by
    have ih := @lookup_relabel env r x k
    show List.lookup x ((if (k' == NameKind.free && env.scope.kind == .function && env.kindOf n == some .cell) = true then (n, NameKind.cell) else (n, k')) :: _) = _
    cases hx : x == n with
    | true =>
      have hx' := beq_iff_eq.mp hx
      subst hx'
      simp only [List.lookup_cons, beq_self_eq_true] at h
      cases h
      by_cases hc : (k' == NameKind.free && env.scope.kind == .function && env.kindOf x == some .cell) = true
      · rw [if_pos hc, if_pos hc, List.lookup_cons, beq_self_eq_true]
      · rw [if_neg hc, if_neg hc, List.lookup_cons, beq_self_eq_true]
    | false =>
      simp only [List.lookup_cons, hx] at h
      by_cases hc : (k' == NameKind.free && env.scope.kind == .function && env.kindOf n == some .cell) = true
      · rw [if_pos hc]; simp only [List.lookup_cons, hx]; exact ih h
      · rw [if_neg hc]; simp only [List.lookup_cons, hx]; exact ih h
theorem lookup_relabel_none {env : Env} : ∀ {names : List (Str × NameKind)} {x : Str}, names.lookup x = none →
    (names.map fun (n, k) => if (k == NameKind.free && env.scope.kind == .function && env.kindOf n == some .cell) then (n, NameKind.cell) else (n, k)).lookup x = none
  | [], _, h => by simp
  | (n, k') :: r, x, h => by
    have ih := @lookup_relabel_none env r x
    show List.lookup x ((if (k' == NameKind.free && env.scope.kind == .function && env.kindOf n == some .cell) = true then (n, NameKind.cell) else (n, k')) :: _) = _
    cases hx : x == n with
    | true => simp [List.lookup_cons, hx] at h
    | false =>
      simp only [List.lookup_cons, hx] at h
      by_cases hc : (k' == NameKind.free && env.scope.kind == .function && env.kindOf n == some .cell) = true
      · rw [if_pos hc]; simp only [List.lookup_cons, hx]; exact ih h
      · rw [if_neg hc]; simp only [List.lookup_cons, hx]; exact ih h

noncomputable def closL (env : Env) : List (Str × NameKind) → List (Str × Addr) → List (Str × Addr)
  | [], acc => acc
  | (n, k) :: r, acc => closL env r (if k == .free then (n, (env.cells.lookup n).getD 0) :: acc else acc)
theorem closL_look (env : Env) (n : Str) : ∀ (names : List (Str × NameKind)) (acc : List (Str × Addr)), ((n, NameKind.free) ∈ names ∨ acc.lookup n = some ((env.cells.lookup n).getD 0)) → (closL env names acc).lookup n = some ((env.cells.lookup n).getD 0)
  | [], acc, h => by
    rcases h with h | h
    · simp at h
    · exact h
  | (m, k) :: r, acc, h => by
    unfold closL
    refine closL_look env n r _ ?_
    by_cases hk : k = .free
    · subst hk
      simp only [beq_self_eq_true, if_true]
      by_cases hm : n = m
      · subst hm; right; simp [List.lookup_cons]
      · rcases h with h | h
        · left
          rcases List.mem_cons.mp h with h | h
          · cases h; exact absurd rfl hm
          · exact h
        · right
          have : (n == m) = false := by simpa using hm
          simp [List.lookup_cons, this, h]
    · have hb : (k == NameKind.free) = false := by simpa using hk
      simp only [hb, Bool.false_eq_true, if_false]
      rcases h with h | h
      · left
        rcases List.mem_cons.mp h with h | h
        · cases h; exact absurd rfl hk
        · exact h
      · right; exact h
theorem mem_of_lookupN {names : List (Str × NameKind)} {x : Str} {k : NameKind} (h : names.lookup x = some k) : (x, k) ∈ names := by
  induction names with
  | nil => simp at h
  | cons p r ih =>
    obtain ⟨n, k'⟩ := p
    rw [List.lookup_cons] at h
    cases hx : x == n with
    | true => rw [hx] at h; cases h; rw [beq_iff_eq.mp hx]; exact List.mem_cons_self
    | false => rw [hx] at h; exact List.mem_cons_of_mem _ (ih h)

/-- the variables of the comprehension's own scope -/
structure CompOk (c : MC) (sc : Scope) (x : Str) (cs : List Str) (caps : List Nat) : Prop where
  kind : sc.kind = .function
  loc : ∀ p ∈ sc.names, p.2 = .local → p.1 = Str.ofString ".0" ∨ p.1 = x
  fre : ∀ p ∈ sc.names, p.2 = .free → p.1 ∈ cs
  nocell : ∀ p ∈ sc.names, p.2 ≠ .cell
  tx : sc.names.lookup x = some .local
  cap : ∀ n ∈ cs, sc.names.lookup n = some .free
  out : ∀ n ∈ cs, c.scope.names.lookup n = some NameKind.cell ∨ c.scope.names.lookup n = some NameKind.free
  names : ∀ y ∈ sc.names, y.2 = .local → sc.names.lookup y.1 = some .local
  cp : ∀ (i j : Nat), caps[i]? = some j → ∃ n, cs[i]? = some n ∧ c.names[j]? = some n

theorem CompOk.outer {c : MC} {sc : Scope} {x : Str} {cs : List Str} {caps : List Nat} {env : Env} (K : CompOk c sc x cs caps) (O : EnvOk c env) {n : Str} (hn : n ∈ cs) : (env.kindOf n = some .cell ∨ env.kindOf n = some .free) ∧ ∃ a, env.cells.lookup n = some a := by
  have h : env.kindOf n = some .cell ∨ env.kindOf n = some .free := by
    rcases K.out n hn with h | h
    · exact .inl (O.cel n h)
    · exact O.fre n h
  exact ⟨h, O.cells n h⟩
theorem CompOk.closLook {c : MC} {sc : Scope} {x : Str} {cs : List Str} {caps : List Nat} {env : Env} (K : CompOk c sc x cs caps) (O : EnvOk c env) {n : Str} (hn : n ∈ cs) {a : Addr} (ha : env.cells.lookup n = some a) : (closL env sc.names []).lookup n = some a := by
  rw [closL_look env n sc.names [] (.inl (mem_of_lookupN (K.cap n hn))), ha]; rfl

theorem CompOk.env {c : MC} {sc : Scope} {x : Str} {cs : List Str} {caps : List Nat} {env : Env} (K : CompOk c sc x cs caps) (O : EnvOk c env) (C : Addr) : EnvOk ⟨c.g, sc, x :: cs⟩ (compEnvC sc (closL env sc.names []) C env) where
  kind := K.kind
  globals := O.globals
  builtins := O.builtins
  loc := fun y h => lookup_relabel (env := env) h
  glob := fun y h => lookup_relabel (env := env) h
  cel := fun y h => absurd rfl (K.nocell _ (mem_of_lookupN h))
  fre := fun y h => by
    have := lookup_relabel (env := env) h
    by_cases hc : ((NameKind.free == NameKind.free && env.scope.kind == .function && env.kindOf y == some .cell)) = true
    · rw [if_pos hc] at this; exact .inl this
    · rw [if_neg hc] at this; exact .inr this
  cells := fun y h => by
    have hy : y ∈ cs := by
      cases hl : sc.names.lookup y with
      | none =>
        have := lookup_relabel_none (env := env) hl
        have h' : (compEnvC sc (closL env sc.names []) C env).kindOf y = none := this
        rw [h'] at h; rcases h with h | h <;> cases h
      | some k =>
        have := lookup_relabel (env := env) hl
        have h' : (compEnvC sc (closL env sc.names []) C env).kindOf y = _ := this
        rw [h'] at h
        have hm := mem_of_lookupN hl
        cases k with
        | free => exact K.fre _ hm rfl
        | cell => exact absurd rfl (K.nocell _ hm)
        | _ => simp at h
    obtain ⟨a, ha⟩ := (K.outer O hy).2
    exact ⟨a, K.closLook O hy ha⟩

end Mine

set_option autoImplicit false
set_option linter.unusedVariables false
namespace Mine
open PySem PyProof.Rows PySem.Calls

section
variable {X : SX} {c : MC}

end
end Mine

set_option autoImplicit false
set_option linter.unusedVariables false
namespace Mine
open PySem PyProof.Rows PySem.Calls

section
variable {X : SX} {c : MC}

theorem se_idx {a b : PE} {x i : Expr} {pos : Pos} (hs : (match i with | .Slice .. => false | _ => true) = true) (h1 : SE X c a x) (h2 : SE X c b i) : SE X c (.idx a b) (.Subscript x i pos) := fun env s α ρ H Q E O T R F q => by
  simp only [wpE] at q
  refine Subscript_ (two h1 h2 O T R F (Q := fun x y H2 => idxWp x y H2 Q) q fun h' tk β K u v x y k f R' ru rv q' => ?_)
  refine wpAny_mono (idx_sound (s := { s with heap := h', toks := tk }) (fun o i' => ?_) R' ru rv q') (fun _ _ p => p.trans k f) fun _ _ x => x
  cases i <;> first | rfl | cases hs

end
end Mine

set_option autoImplicit false
set_option linter.unusedVariables false
namespace Mine
open PySem PyProof.Rows PySem.Calls

theorem isGlob_of_isNm {c : MC} {e : Expr} {x : Str} (h : c.isNm e x = true) : ∃ p, e = .Name x p ∧ c.isGlob x = true := MC.isNm_spec h

theorem mem_abs : (Str.ofString "abs") ∈ bltNames := by simp [bltNames]
theorem mem_len : (Str.ofString "len") ∈ bltNames := by simp [bltNames]
theorem mem_int : (Str.ofString "int") ∈ bltNames := by simp [bltNames]
theorem mem_list : (Str.ofString "list") ∈ bltNames := by simp [bltNames]
theorem mem_tuple : (Str.ofString "tuple") ∈ bltNames := by simp [bltNames]
theorem mem_min : (Str.ofString "min") ∈ bltNames := by simp [bltNames]

section
variable {X : SX} {c : MC}

theorem se_bi {b : Bi} {f : Expr} {ps : PEs} {e : Expr} {es : List Expr} {pos : Pos} (hA : AOk X.A) (hb : b ≠ .listrev) (hf : c.isNm f (biName b) = true) (hn : noStar (e :: es) = true) (h : SEs X c ps (e :: es)) : SE X c (.bi b ps) (.Call f (e :: es) [] pos) := fun env s α ρ H Q E O T R F q => by
  obtain ⟨p, rfl, hx⟩ := isGlob_of_isNm hf
  simp only [wpE] at q
  cases b with
  | abs => exact call_b bootAbs (mem_abs) hx hn h O T R F q fun h' tk β K vs ds k R' r q' => bi_sound (b := .abs) (s := { s with heap := h', toks := tk }) hA R' r q'
  | len => exact call_b bootLen (mem_len) hx hn h O T R F q fun h' tk β K vs ds k R' r q' => bi_sound (b := .len) (s := { s with heap := h', toks := tk }) hA R' r q'
  | int => exact call_t bootInt (mem_int) hx hn h O T R F q fun h' tk β K vs ds k R' r q' => bi_sound (b := .int) (s := { s with heap := h', toks := tk }) hA R' r q'
  | list => exact call_t bootList (mem_list) hx hn h O T R F q fun h' tk β K vs ds k R' r q' => bi_sound (b := .list) (s := { s with heap := h', toks := tk }) hA R' r q'
  | tuple => exact call_t bootTuple (mem_tuple) hx hn h O T R F q fun h' tk β K vs ds k R' r q' => bi_sound (b := .tuple) (s := { s with heap := h', toks := tk }) hA R' r q'
  | min => exact call_b bootMin (mem_min) hx hn h O T R F q fun h' tk β K vs ds k R' r q' => bi_sound (b := .min) (s := { s with heap := h', toks := tk }) hA R' r q'
  | listrev => exact absurd rfl hb

noncomputable def tyStr : Ty → String
  | .int => "int" | .bool => "bool" | .tuple => "tuple" | .list => "list" | .cls _ => ""

theorem isi_sound {prog : Program} {w : World} {A : Around} {E : Value → Shared → Prop} {s : Shared} {G : GV} {α : List Addr} {H : Hp} {Q : V → Hp → Prop} {u : Value} {x : V} {t : Ty} {b : Bool} {sub : Nat → Nat → Bool}
    (R : HR G α s.heap H) (r : Rep G α s.heap u x) (e : isTy sub x t = some b) (q : Q (.bool b) H) : wpAny (model prog w) A (call (.builtin "isinstance") [u, .type (tyStr t)]) (Post G (Rep G) s α H Q) E s := by
  have yes : b = true → Post G (Rep G) s α H Q (.bool true) s := fun h => by subst h; exact Post.same' R (.bool _) q
  have no : b = false → Post G (Rep G) s α H Q (.bool false) { s with toks := s.toks + 1 } := fun h => by subst h; exact Post.same R (.bool _) q _
  cases r with
  | int i tk => cases t <;> simp only [isTy, Option.some.injEq] at e <;> first
    | exact IsiPair.int_int (yes e.symm) | exact IsiPair.int_bool (no e.symm) | exact IsiPair.int_tuple (no e.symm) | exact IsiPair.int_list (no e.symm) | cases e
  | bool i => cases t <;> simp only [isTy, Option.some.injEq] at e <;> first
    | exact IsiPair.bool_int (yes e.symm) | exact IsiPair.bool_bool (yes e.symm) | exact IsiPair.bool_tuple (no e.symm) | exact IsiPair.bool_list (no e.symm) | cases e
  | none => cases t <;> simp only [isTy, Option.some.injEq] at e <;> first
    | exact IsiPair.NoneType_int (no e.symm) | exact IsiPair.NoneType_bool (no e.symm) | exact IsiPair.NoneType_tuple (no e.symm) | exact IsiPair.NoneType_list (no e.symm) | cases e
  | str i tk => cases t <;> simp only [isTy, Option.some.injEq] at e <;> first
    | exact IsiPair.str_int (no e.symm) | exact IsiPair.str_bool (no e.symm) | exact IsiPair.str_tuple (no e.symm) | exact IsiPair.str_list (no e.symm) | cases e
  | tup ht rs z => cases t <;> simp only [isTy, Option.some.injEq] at e <;> first
    | exact IsiPair.isTuple_int ht (fun _ _ e => e) (no e.symm) | exact IsiPair.isTuple_bool ht (fun _ _ e => e) (no e.symm) | exact IsiPair.isTuple_tuple ht (fun _ _ e => e) (yes e.symm) | exact IsiPair.isTuple_list ht (fun _ _ e => e) (no e.symm) | cases e
  | lst ha =>
    obtain ⟨xs, hx⟩ := R.at ha
    obtain ⟨vs, hl, _⟩ := R.getList ha hx
    cases t <;> simp only [isTy, Option.some.injEq] at e <;> first
    | exact IsiPair.isList_int hl (fun _ _ e => e) (no e.symm) | exact IsiPair.isList_bool hl (fun _ _ e => e) (no e.symm) | exact IsiPair.isList_tuple hl (fun _ _ e => e) (no e.symm) | exact IsiPair.isList_list hl (fun _ _ e => e) (yes e.symm) | cases e
  | fn _ => cases t <;> simp [isTy] at e

theorem rep_no_cls {G : GV} {α : List Addr} {h : Heap} {u : Value} {x : V} {sub : Nat → Nat → Bool} (r : Rep G α h u x) {ts : List Ty} {bs : List Bool} (hc : ts.any Ty.isCls = true) (e : ts.mapM (isTy sub x) = some bs) : False := by
  induction ts generalizing bs with
  | nil => simp at hc
  | cons t ts ih =>
    simp only [List.mapM_cons, Option.bind_eq_bind, Option.bind_eq_some_iff, Option.pure_def, Option.some.injEq] at e
    obtain ⟨d, e1, ds', e2, rfl⟩ := e
    simp only [List.any_cons, Bool.or_eq_true] at hc
    rcases hc with hc | hc
    · cases t <;> simp [Ty.isCls] at hc
      cases r <;> simp [isTy] at e1
    · exact ih hc e2

theorem tyLoad {t : Ty} {e : Expr} (ht : t.isCls = false) (he : c.isTyp t e = true) (env : Env) (s : Shared) (Z : Value → Shared → Prop) (E : Value → Shared → Prop) (O : EnvOk c env) (T : GF X.G c.g X.DT s.heap) (hz : Z (.type (tyStr t)) s) :
    notStar e = true ∧ wpAny (model X.prog X.w) X.A (eval e env) Z E s := by
  cases t with
  | int => obtain ⟨p, rfl, hx⟩ := isGlob_of_isNm he; exact ⟨rfl, load_b bootInt (by simp [bltNames]) hx O T hz⟩
  | bool => obtain ⟨p, rfl, hx⟩ := isGlob_of_isNm he; exact ⟨rfl, load_b bootBool (by simp [bltNames]) hx O T hz⟩
  | tuple => obtain ⟨p, rfl, hx⟩ := isGlob_of_isNm he; exact ⟨rfl, load_b bootTuple (by simp [bltNames]) hx O T hz⟩
  | list => obtain ⟨p, rfl, hx⟩ := isGlob_of_isNm he; exact ⟨rfl, load_b bootList (by simp [bltNames]) hx O T hz⟩
  | cls k => simp [Ty.isCls] at ht

theorem tyStar {t : Ty} {e : Expr} (he : c.isTyp t e = true) : notStar e = true := by
  cases t <;> simp only [MC.isTyp] at he <;> first
    | (obtain ⟨p, rfl, hx⟩ := isGlob_of_isNm he; rfl)
    | (split at he
       · obtain ⟨p, rfl, hx⟩ := isGlob_of_isNm he; rfl
       · cases he)

theorem se_isi1 {a : PE} {t : Ty} {f x te : Expr} {pos : Pos} (hf : c.isNm f "isinstance" = true) (hn : notStar x = true) (h : SE X c a x) (ht : c.isTyp t te = true) : SE X c (.isi a [t]) (.Call f [x, te] [] pos) := fun env s α ρ H Q E O T R F q => by
  obtain ⟨p, rfl, hx⟩ := isGlob_of_isNm hf
  simp only [wpE] at q
  have hst := tyStar ht
  refine Call_ (load_b bootIsi (by simp [bltNames]) hx O T (callWith_builtin1 (args_cons (wpAny_mono (h env s α ρ H _ E O T R F q) (fun u s₁ p => ?_) fun _ _ y => y) (starEach_cons hn)) (starEach_cons hn) (star_any (by simp [noStar, hst]))))
  obtain ⟨h₁, tk₁, β, K, d, rfl, k, f', R', r, q'⟩ := p
  obtain ⟨bs, e, q'⟩ := ifSome.get q'
  cases hc : t.isCls with
  | true => exact (rep_no_cls r (ts := [t]) (by simp [hc]) e).elim
  | false =>
    simp only [List.mapM_cons, List.mapM_nil, Option.bind_eq_bind, Option.bind_eq_some_iff, Option.pure_def, Option.some.injEq] at e
    obtain ⟨b, e1, _, rfl, rfl⟩ := e
    refine args_cons (tyLoad hc ht env _ _ _ O (T.keeps k) (args_nil ?_)).2 (starEach_cons hst)
    exact wpAny_mono (isi_sound (s := { s with heap := h₁, toks := tk₁ }) R' r e1 (by simpa using q')) (fun _ _ p => p.trans k f') fun _ _ y => y

theorem se_isiN {a : PE} {ts : List Ty} {f x : Expr} {es : List Expr} {kk : Nat} {pp pos : Pos} (hf : c.isNm f "isinstance" = true) (hn : notStar x = true) (h : SE X c a x) (hc : ts.any Ty.isCls = true) : SE X c (.isi a ts) (.Call f [x, .Tuple es kk pp] [] pos) := fun env s α ρ H Q E O T R F q => by
  obtain ⟨p, rfl, hx⟩ := isGlob_of_isNm hf
  simp only [wpE] at q
  refine Call_ (load_b bootIsi (by simp [bltNames]) hx O T (callWith_builtin1 (args_cons (wpAny_mono (h env s α ρ H _ E O T R F q) (fun u s₁ p => ?_) fun _ _ y => y) (starEach_cons hn)) (starEach_cons hn) (star_any (by simp [noStar, notStar]))))
  obtain ⟨h₁, tk₁, β, K, d, rfl, k, f', R', r, q'⟩ := p
  obtain ⟨bs, e, q'⟩ := ifSome.get q'
  exact (rep_no_cls r hc e).elim
end
end Mine

set_option autoImplicit false
set_option linter.unusedVariables false
set_option linter.unusedSectionVars false
namespace Mine
open PySem PyProof.Rows PySem.Calls

theorem pt_const {a b p} : PlainTest (.Constant a b p) := fun _ _ => rfl
theorem pt_name {a p} : PlainTest (.Name a p) := fun _ _ => rfl
theorem pt_bin {a b d p} : PlainTest (.BinOp a b d p) := fun _ _ => rfl
theorem pt_neg {a p} : PlainTest (.UnaryOp .USub a p) := fun _ _ => rfl
theorem pt_call {a b d p} : PlainTest (.Call a b d p) := fun _ _ => rfl
theorem pt_sub {a b p} : PlainTest (.Subscript a b p) := fun _ _ => rfl
theorem pt_tup {a b p} : PlainTest (.Tuple a b p) := fun _ _ => rfl
theorem pt_list {a p} : PlainTest (.List a p) := fun _ _ => rfl
theorem both {X : SX} {c : MC} {pe : PE} {e : Expr} (h : SE X c pe e) (pt : PlainTest e) : SE X c pe e ∧ SC X c pe e := ⟨h, sc_of_se h pt⟩
theorem notStarM_eq (e : Expr) : notStarM e = notStar e := by cases e <;> rfl

theorem one_spec {β : Type} {l : List β} {x : β} (h : isOne l = some x) : l = [x] := by
  cases l with
  | nil => exact (Option.some_ne_none x h.symm).elim
  | cons y r => cases r with
    | nil => cases h; rfl
    | cons _ _ => exact (Option.some_ne_none x h.symm).elim
theorem varNm_spec {c : MC} {i : Nat} {e : Expr} (h : c.varNm i e = true) : ∃ x p, e = .Name x p ∧ c.isVar i x = true := by
  cases e <;> first | exact (Bool.false_ne_true h).elim | exact ⟨_, _, rfl, h⟩
theorem fnNm_spec {c : MC} {k : Nat} {e : Expr} (h : c.fnNm k e = true) : ∃ x p, e = .Name x p ∧ c.g.fns[k]? = some x ∧ c.isGlob x = true := by
  unfold MC.fnNm at h
  cases hx : c.g.fns[k]? with
  | none => rw [hx] at h; exact (Bool.false_ne_true h).elim
  | some x =>
    rw [hx] at h
    obtain ⟨p, rfl, hg⟩ := MC.isNm_spec h
    exact ⟨x, p, rfl, rfl, hg⟩
theorem isRev_spec {b : Bi} (h : (!b.isRev) = true) : b ≠ .listrev := fun e => by subst e; exact Bool.false_ne_true h

section
variable {c : MC}
theorem inv_cmp {op : COp} {a b : PE} {e : Expr} (h : matchE c (.cmp op a b) e = true) : ∃ l r p, e = .Compare l [cmpOf op] [r] p ∧ behindInMarks (cmpOf op) r = false ∧ matchE c a l = true ∧ matchE c b r = true := by
  cases e <;> first | exact (Bool.false_ne_true h).elim | skip
  rename_i l os rs p
  have h : (match isOne os, isOne rs with | some o, some r => decide (o = cmpOf op) && !behindInMarks o r && matchE c a l && matchE c b r | _, _ => false) = true := h
  cases h1 : isOne os with
  | none => rw [h1] at h; exact (Bool.false_ne_true h).elim
  | some o => cases h2 : isOne rs with
    | none => rw [h1, h2] at h; exact (Bool.false_ne_true h).elim
    | some r =>
      rw [h1, h2] at h
      have h : (decide (o = cmpOf op) && !behindInMarks o r && matchE c a l && matchE c b r) = true := h
      simp only [Bool.and_eq_true, decide_eq_true_eq, Bool.not_eq_true'] at h
      obtain ⟨⟨⟨rfl, hm⟩, h3⟩, h4⟩ := h
      rw [one_spec h1, one_spec h2]
      exact ⟨l, r, p, rfl, hm, h3, h4⟩
theorem inv_call {f : Nat} {es : PEs} {e : Expr} (h : matchE c (.call f es) e = true) : ∃ x p a as pos, e = .Call (.Name x p) (a :: as) [] pos ∧ c.g.fns[f]? = some x ∧ c.isGlob x = true ∧ matchEs c es (a :: as) = true := by
  cases e <;> first | exact (Bool.false_ne_true h).elim | skip
  rename_i g as kw pos
  have h : (kw.isEmpty && c.fnNm f g && !as.isEmpty && matchEs c es as) = true := h
  simp only [Bool.and_eq_true, List.isEmpty_iff, Bool.not_eq_true', List.isEmpty_eq_false_iff] at h
  obtain ⟨⟨⟨rfl, h1⟩, h0⟩, h3⟩ := h
  obtain ⟨x, p, rfl, h1, h2⟩ := fnNm_spec h1
  cases as with
  | nil => exact absurd rfl h0
  | cons a r => exact ⟨x, p, a, r, pos, rfl, h1, h2, h3⟩
theorem inv_bi {b : Bi} {es : PEs} {e : Expr} (h : matchE c (.bi b es) e = true) : ∃ f a as pos, e = .Call f (a :: as) [] pos ∧ b ≠ .listrev ∧ c.isNm f (biName b) = true ∧ matchEs c es (a :: as) = true := by
  cases e <;> first | exact (Bool.false_ne_true h).elim | skip
  rename_i f as kw pos
  have h : (!b.isRev && kw.isEmpty && c.isNm f (biName b) && !as.isEmpty && matchEs c es as) = true := h
  simp only [Bool.and_eq_true, List.isEmpty_iff, List.isEmpty_eq_false_iff] at h
  obtain ⟨⟨⟨⟨hb, rfl⟩, h1⟩, h0⟩, h3⟩ := h
  cases as with
  | nil => exact (Bool.false_ne_true h0).elim
  | cons a r => exact ⟨f, a, r, pos, rfl, isRev_spec hb, h1, h3⟩
theorem inv_isi {a : PE} {ts : List Ty} {e : Expr} (h : matchE c (.isi a ts) e = true) : ∃ f x t pos, e = .Call f [x, t] [] pos ∧ c.isNm f "isinstance" = true ∧ matchE c a x = true ∧ notStar x = true ∧ c.isiOk ts t = true := by
  cases e <;> first | exact (Bool.false_ne_true h).elim | skip
  rename_i f as kw pos
  cases as with
  | nil => exact (Bool.false_ne_true h).elim
  | cons x ys =>
    have h : (match isOne ys with | some t => kw.isEmpty && c.isNm f "isinstance" && matchE c a x && notStarM x && c.isiOk ts t | none => false) = true := h
    cases h1 : isOne ys with
    | none => rw [h1] at h; exact (Bool.false_ne_true h).elim
    | some t =>
      rw [h1] at h
      have h : (kw.isEmpty && c.isNm f "isinstance" && matchE c a x && notStarM x && c.isiOk ts t) = true := h
      simp only [Bool.and_eq_true, List.isEmpty_iff] at h
      obtain ⟨⟨⟨⟨rfl, h2⟩, h3⟩, h4⟩, h5⟩ := h
      rw [one_spec h1]
      exact ⟨f, x, t, pos, rfl, h2, h3, notStarM_eq x ▸ h4, h5⟩
theorem inv_isiOk {ts : List Ty} {t : Expr} (h : c.isiOk ts t = true) : (∃ es k p, t = .Tuple es k p ∧ ts.any Ty.isCls = true) ∨ ∃ ty, ts = [ty] ∧ c.isTyp ty t = true := by
  have one : c.areTyps ts [t] = true → ∃ ty, ts = [ty] ∧ c.isTyp ty t = true := fun h => by
    cases ts with
    | nil => exact (Bool.false_ne_true h).elim
    | cons ty r => cases r with
      | nil => exact ⟨ty, rfl, (Bool.and_eq_true_iff.mp h).1⟩
      | cons _ _ => exact (Bool.false_ne_true (Bool.and_eq_true_iff.mp h).2).elim
  cases t <;> first | exact .inr (one h) | skip
  rename_i es k p
  have h : (decide (2 ≤ ts.length) && ts.all Ty.isCls && c.areTyps ts es) = true := h
  simp only [Bool.and_eq_true, decide_eq_true_eq] at h
  cases ts with
  | nil => exact absurd h.1.1 (by decide)
  | cons t r =>
    have h5 := h.1.2
    rw [List.all_cons, Bool.and_eq_true] at h5
    exact .inl ⟨es, k, p, rfl, by rw [List.any_cons, h5.1]; rfl⟩
theorem inv_cons {pe : PE} {ps : PEs} {es : List Expr} (h : matchEs c (.cons pe ps) es = true) : ∃ x xs, es = x :: xs ∧ matchE c pe x = true ∧ notStar x = true ∧ matchEs c ps xs = true := by
  cases es with
  | nil => exact (Bool.false_ne_true h).elim
  | cons x xs =>
    have h : (matchE c pe x && notStarM x && matchEs c ps xs) = true := h
    simp only [Bool.and_eq_true] at h
    exact ⟨x, xs, rfl, h.1.1, notStarM_eq x ▸ h.1.2, h.2⟩
end

section
variable {X : SX} {g : GC} (hA : AOk X.A) (hΦ : SCall X.prog X.w X.G g X.DT X.A X.Φ)
include hA hΦ

mutual
theorem soundE : (pe : PE) → ∀ (sc : Scope) (names : List Str) (e : Expr), matchE ⟨g, sc, names⟩ pe e = true → SE X ⟨g, sc, names⟩ pe e ∧ SC X ⟨g, sc, names⟩ pe e
  | .cint i, sc, names, e, h => by
    cases e <;> first | exact (Bool.false_ne_true h).elim | skip
    rename_i k _ _
    cases k <;> first | exact (Bool.false_ne_true h).elim | skip
    cases of_decide_eq_true h; exact both se_cint pt_const
  | .cbool i, sc, names, e, h => by
    cases e <;> first | exact (Bool.false_ne_true h).elim | skip
    rename_i k _ _
    cases k <;> first | exact (Bool.false_ne_true h).elim | skip
    cases of_decide_eq_true h; exact both se_cbool pt_const
  | .cstr i, sc, names, e, h => by
    cases e <;> first | exact (Bool.false_ne_true h).elim | skip
    rename_i k _ _
    cases k <;> first | exact (Bool.false_ne_true h).elim | skip
    cases of_decide_eq_true h; exact both se_cstr pt_const
  | .cnone, sc, names, e, h => by
    cases e <;> first | exact (Bool.false_ne_true h).elim | skip
    rename_i k _ _
    cases k <;> first | exact (Bool.false_ne_true h).elim | skip
    exact both se_cnone pt_const
  | .var i, sc, names, e, h => by
    obtain ⟨x, p, rfl, h⟩ := varNm_spec h
    exact both (se_var h) pt_name
  | .fnv k, sc, names, e, h => by
    obtain ⟨x, p, rfl, h1, h2⟩ := fnNm_spec h
    exact both (se_fnv h1 h2) pt_name
  | .glob x a b, sc, names, e, h => by
    have h := Bool.and_eq_true_iff.mp h
    have hs := se_glob (X := X) (c := ⟨g, sc, names⟩) (List.contains_iff_mem.mp h.1) h.2
    obtain ⟨p, rfl, _⟩ := MC.isNm_spec h.2
    exact both hs pt_name
  | .bin op a b, sc, names, e, h => by
    cases e <;> first | exact (Bool.false_ne_true h).elim | skip
    rename_i l o r p
    have h : (decide (o = opOf op) && matchE ⟨g, sc, names⟩ a l && matchE ⟨g, sc, names⟩ b r) = true := h
    simp only [Bool.and_eq_true, decide_eq_true_eq] at h
    obtain ⟨⟨rfl, h1⟩, h2⟩ := h
    exact both (se_bin (op := op) (soundE a sc names _ h1).1 (soundE b sc names _ h2).1) pt_bin
  | .neg a, sc, names, e, h => by
    cases e <;> first | exact (Bool.false_ne_true h).elim | skip
    rename_i o x p
    have h := Bool.and_eq_true_iff.mp h
    cases of_decide_eq_true h.1
    exact both (se_neg (soundE a sc names _ h.2).1) pt_neg
  | .nt a, sc, names, e, h => by
    cases e <;> first | exact (Bool.false_ne_true h).elim | skip
    rename_i o x p
    have h := Bool.and_eq_true_iff.mp h
    cases of_decide_eq_true h.1
    exact ⟨se_nt (soundE a sc names _ h.2).1, sc_nt (soundE a sc names _ h.2).2⟩
  | .cmp op a b, sc, names, e, h => by
    obtain ⟨l, r, p, rfl, hm, h1, h2⟩ := inv_cmp h
    exact ⟨se_cmp hA hm (soundE a sc names _ h1).1 (soundE b sc names _ h2).1, sc_cmp hA hm (soundE a sc names _ h1).1 (soundE b sc names _ h2).1⟩
  | .and es, sc, names, e, h => by
    cases e <;> first | exact (Bool.false_ne_true h).elim | skip
    have h := Bool.and_eq_true_iff.mp h
    cases of_decide_eq_true h.1
    exact ⟨se_and (soundAll true es sc names _ h.2).1, sc_and (soundAll true es sc names _ h.2).2⟩
  | .or es, sc, names, e, h => by
    cases e <;> first | exact (Bool.false_ne_true h).elim | skip
    have h := Bool.and_eq_true_iff.mp h
    cases of_decide_eq_true h.1
    exact ⟨se_or (soundAll false es sc names _ h.2).1, sc_or (soundAll false es sc names _ h.2).2⟩
  | .call f es, sc, names, e, h => by
    obtain ⟨x, p, a, r, pos, rfl, h1, h2, h3⟩ := inv_call h
    obtain ⟨hs, hn⟩ := soundEs es sc names _ h3
    exact both (se_call (c := ⟨g, sc, names⟩) hΦ h1 h2 (Bool.and_eq_true_iff.mp hn).1 hs) pt_call
  | .callv _ _, sc, names, e, h => (Bool.false_ne_true h).elim
  | .bi b es, sc, names, e, h => by
    obtain ⟨f, a, r, pos, rfl, hb, h1, h3⟩ := inv_bi h
    obtain ⟨hs, hn⟩ := soundEs es sc names _ h3
    exact both (se_bi hA hb h1 hn hs) pt_call
  | .isi a ts, sc, names, e, h => by
    obtain ⟨f, x, t, pos, rfl, h1, h2, h3, h4⟩ := inv_isi h
    rcases inv_isiOk h4 with ⟨es, k, p, rfl, h5⟩ | ⟨ty, rfl, h5⟩
    · exact both (se_isiN h1 h3 (soundE a sc names _ h2).1 h5) pt_call
    · exact both (se_isi1 h1 h3 (soundE a sc names _ h2).1 h5) pt_call
  | .idx a b, sc, names, e, h => by
    cases e <;> first | exact (Bool.false_ne_true h).elim | skip
    have h := Bool.and_eq_true_iff.mp h
    have h1 := Bool.and_eq_true_iff.mp h.1
    exact both (se_idx h.2 (soundE a sc names _ h1.1).1 (soundE b sc names _ h1.2).1) pt_sub
  | .slc _ _ _, sc, names, e, h => (Bool.false_ne_true h).elim
  | .tup es, sc, names, e, h => by
    cases e <;> first | exact (Bool.false_ne_true h).elim | skip
    have h := Bool.and_eq_true_iff.mp h
    exact both (se_tup (of_decide_eq_true h.1) (soundEs es sc names _ h.2).1) pt_tup
  | .lst es, sc, names, e, h => by
    cases e <;> first | exact (Bool.false_ne_true h).elim | skip
    have h := Bool.and_eq_true_iff.mp h
    exact both (se_lst (of_decide_eq_true h.1) (soundEs es sc names _ h.2).1) pt_list
  | .comp _ _ _ _ _, sc, names, e, h => (Bool.false_ne_true h).elim
theorem soundEs : (ps : PEs) → ∀ (sc : Scope) (names : List Str) (es : List Expr), matchEs ⟨g, sc, names⟩ ps es = true → SEs X ⟨g, sc, names⟩ ps es ∧ noStar es = true
  | .nil, sc, names, es, h => by
    cases es with
    | nil => exact ⟨ses_nil, rfl⟩
    | cons _ _ => exact (Bool.false_ne_true h).elim
  | .cons pe ps, sc, names, es, h => by
    obtain ⟨x, xs, rfl, h1, hst, h2⟩ := inv_cons h
    obtain ⟨h3, h4⟩ := soundEs ps sc names _ h2
    exact ⟨ses_cons hst (soundE pe sc names _ h1).1 h3, Bool.and_eq_true_iff.mpr ⟨hst, h4⟩⟩
theorem soundAll : (b : Bool) → (ps : PEs) → ∀ (sc : Scope) (names : List Str) (es : List Expr), matchEs ⟨g, sc, names⟩ ps es = true → SAll X ⟨g, sc, names⟩ b ps es ∧ SAllC X ⟨g, sc, names⟩ b ps es
  | b, .nil, sc, names, es, h => by
    cases es with
    | nil => exact ⟨sall_nil, sallc_nil⟩
    | cons _ _ => exact (Bool.false_ne_true h).elim
  | b, .cons pe ps, sc, names, es, h => by
    obtain ⟨x, xs, rfl, h1, _, h2⟩ := inv_cons h
    have ih := soundAll b ps sc names _ h2
    cases ps with
    | nil =>
      cases xs with
      | nil => exact ⟨sall_one (soundE pe sc names _ h1).1, sallc_one (soundE pe sc names _ h1).2⟩
      | cons _ _ => exact (Bool.false_ne_true h2).elim
    | cons p2 ps =>
      obtain ⟨y, ys, rfl, _⟩ := inv_cons h2
      exact ⟨sall_cons (soundE pe sc names _ h1).1 ih.1, sallc_cons (soundE pe sc names _ h1).2 ih.2⟩
end
end
end Mine

set_option autoImplicit false
set_option linter.unusedVariables false
namespace Mine
open PySem PyProof.Rows PySem.Calls

/-- a frame of an own def: the heap at its entry, its place -/
structure FC where
  c : MC
  env : Env
  hb : Heap

structure FCOk (f : FC) : Prop where
  env : EnvOk f.c f.env
  nodup : f.c.names.Nodup
  kind : ∀ x, f.c.scope.names.lookup x ≠ some NameKind.free
  deadL : f.hb.get? f.env.locals = none
  deadC : ∀ n a, (n, a) ∈ f.env.cells → f.hb.get? a = none
  above : ∀ n a, (n, a) ∈ f.env.cells → f.env.locals < a
  apart : f.env.cells.Pairwise fun x y => x.2 ≠ y.2
  uniq : ∀ n a, (n, a) ∈ f.env.cells → f.env.cells.lookup n = some a

/-- the frame's state: its variables, and what stood at its entry -/
structure FrS (G : GV) (f : FC) (W : Nat → Prop) (h : Heap) (α : List Addr) (ρ : Loc) : Prop where
  fr : ∃ m cm, h.Ns f.env.locals m ∧ Cl f.env.locals f.env.cells h cm ∧ ∀ (i : Nat) (x : Str) (d : V), f.c.names[i]? = some x → lget ρ i = some d →
    ∃ v, ((f.env.kindOf x = some .local ∧ m x = some v) ∨ (f.env.kindOf x = some .cell ∧ cm x = some v ∧ ∃ a, f.env.cells.lookup x = some a)) ∧ Rep G α h v d
  kb : KeepsH f.hb h
  wb : ∀ n a, α[n]? = some a → W n → f.hb.get? a = none

theorem FrS.fi {G : GV} {f : FC} {W : Nat → Prop} {h : Heap} {α : List Addr} {ρ : Loc} (F : FrS G f W h α ρ) : FI G f.c f.env α h ρ := fun i x d e1 e2 => by
  obtain ⟨m, cm, hn, hc, hv⟩ := F.fr
  obtain ⟨v, hv, r⟩ := hv i x d e1 e2
  refine ⟨v, ?_, r⟩
  rcases hv with ⟨k, e⟩ | ⟨k, e, a, ha⟩
  · exact .inl ⟨k, m, hn, e⟩
  · exact .inr ⟨.inl k, a, ha, by have := hc.cell x a ha; rw [e] at this; exact this⟩
theorem FrS.up {G : GV} {f : FC} {W : Nat → Prop} {h h' : Heap} {α β : List Addr} {ρ : Loc} (F : FrS G f W h α ρ) (k : KeepsH h h') (hf : ∀ b ∈ β, h.get? b = none) : FrS G f W h' (α ++ β) ρ := by
  obtain ⟨m, cm, hn, hc, hv⟩ := F.fr
  refine ⟨⟨m, cm, hn.keeps k, hc.keeps k, fun i x d e1 e2 => ?_⟩, F.kb.trans k, fun n a ha hw => ?_⟩
  · obtain ⟨v, hv, r⟩ := hv i x d e1 e2
    exact ⟨v, hv, r.up k⟩
  · by_cases hl : n < α.length
    · rw [List.getElem?_append_left hl] at ha; exact F.wb n a ha hw
    · rw [List.getElem?_append_right (by omega)] at ha
      have hm := hf a (List.mem_of_getElem? ha)
      cases e : f.hb.get? a with
      | none => rfl
      | some o => have := F.kb a o e; rw [hm] at this; cases this
theorem lget_lset {v : V} : ∀ (ρ : Loc) (i j : Nat), lget (lset ρ i v) j = some v ∧ j = i ∨ lget (lset ρ i v) j = lget ρ j ∧ (j ≠ i ∨ lget ρ j = none)
  | [], i, j => by cases i <;> cases j <;> simp [lset, lget]
  | x :: r, 0, 0 => by simp [lset, lget]
  | x :: r, 0, j + 1 => by simp [lset, lget]
  | x :: r, i + 1, 0 => by simp [lset, lget]
  | x :: r, i + 1, j + 1 => by
    simp only [lset, lget]
    rcases lget_lset r i j with ⟨a, b⟩ | ⟨a, b⟩
    · exact .inl ⟨a, by omega⟩
    · exact .inr ⟨a, by rcases b with b | b; exact .inl (by omega); exact .inr b⟩

/-- every object that lives, lives on -/
noncomputable def Lives (h h' : Heap) : Prop := ∀ b o, h.get? b = some o → ∃ o', h'.get? b = some o'
theorem Lives.of {h h' : Heap} (k : KeepsH h h') : Lives h h' := fun b o e => ⟨o, k b o e⟩
theorem Lives.trans {h h' h'' : Heap} (a : Lives h h') (b : Lives h' h'') : Lives h h'' := fun x o e => let ⟨o', e'⟩ := a x o e; b x o' e'
theorem Lives.sameBut {h h' : Heap} {a : Addr} (hs : Heap.SameBut a h h') (ha : ∃ o, h'.get? a = some o) : Lives h h' := fun b o e => by
  by_cases hb : b = a
  · subst hb; exact ha
  · exact ⟨o, hs.extBut b o hb e⟩

/-- all is kept but the frame and its cells -/
noncomputable def KeepsF (f : FC) (h h' : Heap) : Prop := ∀ b o, h.get? b = some o → b ≠ f.env.locals → (∀ n, (n, b) ∉ f.env.cells) → h'.get? b = some o

section
variable {M : Model} {A : Around} {E : Value → Shared → Prop} {s : Shared} {G : GV} {f : FC} {W : Nat → Prop} {α : List Addr} {ρ : Loc}
theorem store_var {i : Nat} {x : Str} {v : Value} {d : V} {Q : Unit → Shared → Prop} (K : FCOk f) (F : FrS G f W s.heap α ρ) (hx : f.c.isVar i x = true) (r : Rep G α s.heap v d)
    (h : ∀ h' tk, FrS G f W h' α (lset ρ i d) → KeepsF f s.heap h' → KeepsLT s.heap h' → Lives s.heap h' → Q () { s with heap := h', toks := tk }) : wpAny M A (storeName f.env x v) Q E s := by
  obtain ⟨m, cm, hn, hc, hv⟩ := F.fr
  obtain ⟨hxi, _, _, hk⟩ := MC.isVar_spec hx
  have other : ∀ j y e, f.c.names[j]? = some y → lget (lset ρ i d) j = some e → (j = i ∧ e = d) ∨ (y ≠ x ∧ lget ρ j = some e) := fun j y e hj he => by
    rcases lget_lset (v := d) ρ i j with ⟨a, b⟩ | ⟨a, b⟩
    · rw [a] at he; cases he; exact .inl ⟨b, rfl⟩
    · rw [a] at he
      rcases b with b | b
      · refine .inr ⟨fun q => b ?_, he⟩
        subst q
        obtain ⟨l1, g1⟩ := List.getElem?_eq_some_iff.mp hj
        obtain ⟨l2, g2⟩ := List.getElem?_eq_some_iff.mp hxi
        exact (List.getElem_inj K.nodup).mp (g1.trans g2.symm)
      · rw [b] at he; cases he
  have hkind : f.env.kindOf x = some .local ∨ f.env.kindOf x = some .cell := by
    rcases hk with hk | hk | hk
    · exact .inl (K.env.loc x hk)
    · exact .inr (K.env.cel x hk)
    · exact absurd hk (K.kind x)
  rcases hkind with hl | hl
  · refine wpAny_storeName_local hl hn (fun h' hn' hs' => ?_) (by rw [K.env.kind]; rfl)
    have lt : KeepsLT s.heap h' := KeepsLT.sameBut hs' (ns_notSeq hn)
    refine h h' _ ⟨⟨_, cm, hn', hc.sameBut hs' (Nat.le_refl _), fun j y e hj he => ?_⟩, fun b o e => hs'.extBut b o (fun q => by rw [q, K.deadL] at e; cases e) (F.kb b o e), F.wb⟩ (fun b o e hb _ => hs'.extBut b o hb e) lt (.sameBut hs' (let ⟨o, _, _, ho, _⟩ := hn'; ⟨o, ho⟩))
    rcases other j y e hj he with ⟨rfl, rfl⟩ | ⟨hy, he⟩
    · rw [hxi] at hj; cases hj
      exact ⟨v, .inl ⟨hl, if_pos rfl⟩, r.mono (fun _ _ e => e) lt.tup⟩
    · obtain ⟨u, hu, ru⟩ := hv j y e hj he
      refine ⟨u, ?_, ru.mono (fun _ _ e => e) lt.tup⟩
      rcases hu with ⟨k, e⟩ | hu
      · exact .inl ⟨k, by rw [if_neg hy]; exact e⟩
      · exact .inr hu
  · obtain ⟨ca, hca⟩ := K.env.cells x (.inl hl)
    have hcell := hc.cell x ca hca
    have hmem := PySem.mem_of_lookup hca
    refine wpAny_storeName_cell K.env.kind hl hca hcell fun h' hv' hs' => ?_
    have lt : KeepsLT s.heap h' := KeepsLT.sameBut hs' fun o ho items n d => by
      obtain ⟨o', ho', hd'⟩ := hcell
      rw [ho] at ho'; cases ho'; rw [hd'] at d; cases d
    have hLc : f.env.locals < ca := K.above x ca hmem
    refine h h' s.toks ⟨⟨m, fun y => if y = x then some v else cm y, hn.sameBut hs' (Nat.ne_of_lt hLc), ⟨fun n c' e => ?_, hc.apart, hc.above⟩, fun j y e hj he => ?_⟩, fun b o e => hs'.extBut b o (fun q => by rw [q, K.deadC x ca hmem] at e; cases e) (F.kb b o e), F.wb⟩ (fun b o e _ hb => hs'.extBut b o (fun q => hb x (q ▸ hmem)) e) lt (.sameBut hs' (let ⟨o, ho, _⟩ := hv'; ⟨o, ho⟩))
    · by_cases hnx : n = x
      · subst hnx; rw [hca] at e; cases e; simpa using hv'
      · have hcc : c' ≠ ca := fun q => hnx (name_of_addr hc.apart (PySem.mem_of_lookup e) (q ▸ hmem))
        simpa [hnx] using (hc.cell n c' e).sameBut hs' hcc
    · rcases other j y e hj he with ⟨rfl, rfl⟩ | ⟨hy, he⟩
      · rw [hxi] at hj; cases hj
        exact ⟨v, .inr ⟨hl, if_pos rfl, ca, hca⟩, r.mono (fun _ _ e => e) lt.tup⟩
      · obtain ⟨u, hu, ru⟩ := hv j y e hj he
        refine ⟨u, ?_, ru.mono (fun _ _ e => e) lt.tup⟩
        rcases hu with hu | ⟨k, e, a, ha⟩
        · exact .inl hu
        · exact .inr ⟨k, by show (if y = x then some v else cm y) = some u; rw [if_neg hy]; exact e, a, ha⟩
end
end Mine

set_option autoImplicit false
set_option linter.unusedVariables false
namespace Mine
open PySem PyProof.Rows PySem.Calls

/-- from state to state: only the frame and the lists that may be written have turned -/
structure StepS (f : FC) (W : Nat → Prop) (s : Shared) (α : List Addr) (H : Hp) (h' : Heap) (β : List Addr) (H' : Hp) : Prop where
  keep : ∀ b o, s.heap.get? b = some o → b ≠ f.env.locals → (∀ n, (n, b) ∉ f.env.cells) → (∀ n, α[n]? = some b → ¬ W n) → h'.get? b = some o
  fresh : ∀ b ∈ β, s.heap.get? b = none
  same : ∀ n, n < H.length → ¬ W n → H'[n]? = H[n]?
  le : H.length ≤ H'.length

theorem StepS.refl {f : FC} {W : Nat → Prop} {s : Shared} {α : List Addr} {H : Hp} : StepS f W s α H s.heap [] H := ⟨fun _ _ e _ _ _ => e, by simp, fun _ _ _ => rfl, Nat.le_refl _⟩
theorem StepS.of {f : FC} {W : Nat → Prop} {s : Shared} {α : List Addr} {H : Hp} {h' : Heap} {β : List Addr} {K : Hp} (k : KeepsH s.heap h') (hf : ∀ b ∈ β, s.heap.get? b = none) : StepS f W s α H h' β (H ++ K) :=
  ⟨fun b o e _ _ _ => k b o e, hf, fun n hn _ => List.getElem?_append_left hn, by simp⟩
theorem StepS.trans {f : FC} {W : Nat → Prop} {s : Shared} {α : List Addr} {H : Hp} {h₁ h₂ : Heap} {tk : Nat} {β₁ β₂ : List Addr} {H₁ H₂ : Hp}
    (a : StepS f W s α H h₁ β₁ H₁) (ak : ∀ b o, s.heap.get? b = some o → ∃ o', h₁.get? b = some o') (b : StepS f W { s with heap := h₁, toks := tk } (α ++ β₁) H₁ h₂ β₂ H₂) : StepS f W s α H h₂ (β₁ ++ β₂) H₂ := by
  refine ⟨fun x o e h1 h2 h3 => ?_, fun x hx => ?_, fun n hn hw => ?_, Nat.le_trans a.le b.le⟩
  · refine b.keep x o (a.keep x o e h1 h2 h3) h1 h2 fun n hn => ?_
    by_cases hlt : n < α.length
    · rw [List.getElem?_append_left hlt] at hn; exact h3 n hn
    · rw [List.getElem?_append_right (by omega)] at hn
      have := a.fresh x (List.mem_of_getElem? hn)
      rw [e] at this; cases this
  · rcases List.mem_append.mp hx with hx | hx
    · exact a.fresh x hx
    · cases e : s.heap.get? x with
      | none => rfl
      | some o =>
        obtain ⟨o', e'⟩ := ak x o e
        have := b.fresh x hx
        rw [show ({ s with heap := h₁, toks := tk } : Shared).heap.get? x = some o' from e'] at this; cases this
  · rw [b.same n (Nat.lt_of_lt_of_le hn a.le) hw]; exact a.same n hn hw

/-- the post of a statement -/
inductive PostS (G : GV) (f : FC) (W : Nat → Prop) (s : Shared) (α : List Addr) (H : Hp) (N : Loc → Hp → Prop) (R : V → Hp → Prop) (fl : Flow) (s' : Shared) : Prop
  | mk (h' : Heap) (tk : Nat) (β : List Addr) (H' : Hp) (e : s' = { s with heap := h', toks := tk }) (st : StepS f W s α H h' β H') (lv : Lives s.heap h') (hr : HR G (α ++ β) h' H') (c : match fl with
    | .next => ∃ ρ', FrS G f W h' (α ++ β) ρ' ∧ N ρ' H'
    | .ret v => KeepsH f.hb h' ∧ ∃ d, Rep G (α ++ β) h' v d ∧ R d H'
    | _ => False)

/-- what a raise needs -/
noncomputable def RaiseOk (X : SX) (f : FC) (W : Nat → Prop) (s : Shared) (α : List Addr) (H : Hp) (Y : Nat → Hp → Prop) (E : Value → Shared → Prop) : Prop :=
  ∀ (k : Nat) (st : Stmt) (h' : Heap) (tk : Nat) (β : List Addr) (H' : Hp) (ρ' : Loc), matchS f.c (.raise k) st = true → StepS f W s α H h' β H' → Lives s.heap h' → HR X.G (α ++ β) h' H' → FrS X.G f W h' (α ++ β) ρ' → Y k H' →
    wpAny (model X.prog X.w) X.A (exec st f.env) (fun _ _ => False) E { s with heap := h', toks := tk }

noncomputable def SS (X : SX) (f : FC) (ps : PS) (st : Stmt) : Prop :=
  ∀ (W : Nat → Prop) (s : Shared) (α : List Addr) (ρ : Loc) (H : Hp) (N : Loc → Hp → Prop) (R : V → Hp → Prop) (Y : Nat → Hp → Prop) (E : Value → Shared → Prop), (∀ n, W n → 1 ≤ n) → GF X.G f.c.g X.DT f.hb → FrS X.G f W s.heap α ρ → HR X.G α s.heap H →
    RaiseOk X f W s α H Y E → wpS X.sub X.Φ W ps ρ H N R Y → wpAny (model X.prog X.w) X.A (exec st f.env) (PostS X.G f W s α H N R) E s
noncomputable def SB (X : SX) (f : FC) (ps : PS) (sts : List Stmt) : Prop :=
  ∀ (W : Nat → Prop) (s : Shared) (α : List Addr) (ρ : Loc) (H : Hp) (N : Loc → Hp → Prop) (R : V → Hp → Prop) (Y : Nat → Hp → Prop) (E : Value → Shared → Prop), (∀ n, W n → 1 ≤ n) → GF X.G f.c.g X.DT f.hb → FrS X.G f W s.heap α ρ → HR X.G α s.heap H →
    RaiseOk X f W s α H Y E → wpS X.sub X.Φ W ps ρ H N R Y → wpAny (model X.prog X.w) X.A (execs sts f.env) (PostS X.G f W s α H N R) E s

end Mine

set_option autoImplicit false
set_option linter.unusedVariables false
namespace Mine
open PySem PyProof.Rows PySem.Calls

section
variable {prog : Program} {w : World} {A : Around} {E : Value → Shared → Prop} {s : Shared}

end

section
variable {G : GV} {f : FC} {W : Nat → Prop} {s : Shared} {α : List Addr} {ρ : Loc} {H : Hp}
end
end Mine

set_option autoImplicit false
set_option linter.unusedVariables false
namespace Mine
open PySem PyProof.Rows PySem.Calls

section
variable {X : SX} {f : FC}

theorem GF.at {G : GV} {gc : GC} {DT : List DefT} {W : Nat → Prop} {h : Heap} {α : List Addr} {ρ : Loc} (T : GF G gc DT f.hb) (F : FrS G f W h α ρ) : GF G gc DT h := T.keeps F.kb

/-- a statement that ends in a store -/
theorem store_post (K : FCOk f) {W : Nat → Prop} {s : Shared} {α : List Addr} {ρ : Loc} {H : Hp} {N : Loc → Hp → Prop} {R : V → Hp → Prop} {E : Value → Shared → Prop} {i : Nat} {x : Str} (F : FrS X.G f W s.heap α ρ) (hx : f.c.isVar i x = true)
    {v : Value} {s₁ : Shared} (p : Post X.G (Rep X.G) s α H (fun v H1 => N (lset ρ i v) H1) v s₁) :
    wpAny (model X.prog X.w) X.A (storeName f.env x v) (fun _ => PostS X.G f W s α H N R .next) E s₁ := by
  obtain ⟨h₁, tk₁, β, K₁, d, rfl, k, fr, R', r, q⟩ := p
  refine store_var (s := { s with heap := h₁, toks := tk₁ }) K (F.up k fr) hx r fun h' tk F' kf lt lv => ?_
  refine ⟨h', tk, β, H ++ K₁, rfl, ⟨fun b o e h1 h2 _ => kf b o (k b o e) h1 h2, fr, fun n hn _ => List.getElem?_append_left hn, by simp⟩, (Lives.of k).trans lv, R'.lt' lt, _, F', q⟩

noncomputable abbrev notComp := notCompM
theorem swaps_false {e : Expr} (h : notComp e = true) (t : Option Expr) (l : Nat) (env : Env) : swapsWith e t l env = pure false := by
  cases e <;> first | rfl | cases h

theorem ss_assign {i : Nat} {x : Str} {pe : PE} {v : Expr} {px pos : Pos} (K : FCOk f) (hx : f.c.isVar i x = true) (h : SE X f.c pe v) (hc : notComp v = true) : SS X f (.assign i pe) (.Assign [.Name x px] v pos) := fun W s α ρ H N R Y E hW T F HR' hY q => by
  simp only [wpS] at q
  refine wpAny_Assign_Name (wpAny_mono (h f.env s α ρ H _ E K.env (T.at F) HR' F.fi q) (fun v s₁ p => ?_) fun _ _ x => x) (swaps_false hc _ _ _)
  exact store_post K F hx p

theorem ss_ret {pe : PE} {v : Expr} {pos : Pos} (K : FCOk f) (h : SE X f.c pe v) : SS X f (.ret pe) (.Return (some v) pos) := fun W s α ρ H N R Y E hW T F HR' hY q => by
  simp only [wpS] at q
  refine wpAny_Return_some (wpAny_mono (h f.env s α ρ H _ E K.env (T.at F) HR' F.fi q) (fun v s₁ p => ?_) fun _ _ x => x)
  obtain ⟨h₁, tk₁, β, K₁, d, rfl, k, fr, R', r, q⟩ := p
  exact ⟨h₁, tk₁, β, H ++ K₁, rfl, .of k fr, .of k, R', F.kb.trans k, d, r, q⟩

/-- from a later state -/
theorem PostS.trans {G : GV} {W : Nat → Prop} {s : Shared} {α : List Addr} {H : Hp} {N : Loc → Hp → Prop} {R : V → Hp → Prop} {h₁ : Heap} {tk₁ : Nat} {β : List Addr} {H₁ : Hp} {fl : Flow} {s' : Shared} (st : StepS f W s α H h₁ β H₁) (lv : Lives s.heap h₁)
    (p : PostS G f W { s with heap := h₁, toks := tk₁ } (α ++ β) H₁ N R fl s') : PostS G f W s α H N R fl s' := by
  obtain ⟨h', tk, β', H', rfl, st', lv', R', q⟩ := p
  refine ⟨h', tk, β ++ β', H', rfl, st.trans lv st', lv.trans lv', by simpa using R', ?_⟩
  cases fl with
  | next => obtain ⟨ρ', F', q⟩ := q; exact ⟨ρ', by simpa using F', q⟩
  | ret v => obtain ⟨k, d, r, q⟩ := q; exact ⟨k, d, by simpa using r, q⟩
  | brk => exact q
  | cont => exact q

theorem RaiseOk.later {W : Nat → Prop} {s : Shared} {α : List Addr} {H : Hp} {Y : Nat → Hp → Prop} {E : Value → Shared → Prop} {h₁ : Heap} {tk₁ : Nat} {β : List Addr} {H₁ : Hp} (hY : RaiseOk X f W s α H Y E) (st : StepS f W s α H h₁ β H₁) (lv : Lives s.heap h₁) :
    RaiseOk X f W { s with heap := h₁, toks := tk₁ } (α ++ β) H₁ Y E := fun k stm h' tk β' H' ρ' hm st' lv' R' F' y => by
  exact hY k stm h' tk (β ++ β') H' ρ' hm (st.trans lv st') (lv.trans lv') (by simpa using R') (by simpa using F') y

theorem sb_nil (K : FCOk f) : SB X f .skip [] := fun W s α ρ H N R Y E hW T F HR' hY q => by
  simp only [wpS] at q
  exact wpAny_execs_nil ⟨s.heap, s.toks, [], H, rfl, .refl, fun b o e => ⟨o, e⟩, by simpa using HR', ρ, by simpa using F, q⟩

theorem sb_cons {a b : PS} {st : Stmt} {sts : List Stmt} (K : FCOk f) (h1 : SS X f a st) (h2 : SB X f b sts) : SB X f (.seq a b) (st :: sts) := fun W s α ρ H N R Y E hW T F HR' hY q => by
  simp only [wpS] at q
  refine wpAny_execs_cons (wpAny_mono (h1 W s α ρ H _ R Y E hW T F HR' hY q) (fun fl s₁ p => ?_) fun _ _ x => x)
  cases fl with
  | next =>
    obtain ⟨h₁, tk₁, β, H₁, rfl, st, lv, R₁, ρ', F', q'⟩ := p
    exact wpAny_mono (h2 W { s with heap := h₁, toks := tk₁ } (α ++ β) ρ' H₁ N R Y E hW T F' R₁ (hY.later st lv) q') (fun _ _ p => p.trans st lv) fun _ _ x => x
  | ret v =>
    obtain ⟨h₁, tk₁, β, H₁, rfl, st, lv, R₁, k, d, r, q'⟩ := p
    exact ⟨h₁, tk₁, β, H₁, rfl, st, lv, R₁, k, d, r, q'⟩
  | brk => obtain ⟨_, _, _, _, _, _, _, _, q⟩ := p; exact q.elim
  | cont => obtain ⟨_, _, _, _, _, _, _, _, q⟩ := p; exact q.elim

theorem ss_ite {c : PE} {a b : PS} {v : Expr} {x y : List Stmt} {pos : Pos} (K : FCOk f) (h : SC X f.c c v) (h1 : SB X f a x) (h2 : SB X f b y) : SS X f (.ite c a b) (.If v x y pos) := fun W s α ρ H N R Y E hW T F HR' hY q => by
  simp only [wpS] at q
  refine wpAny_If (wpAny_mono (h f.env s α ρ H (fun t H1 => if t then wpS X.sub X.Φ W a ρ H1 N R Y else wpS X.sub X.Φ W b ρ H1 N R Y) E K.env (T.at F) HR' F.fi q) (fun t s₁ p => ?_) fun _ _ x => x)
  obtain ⟨h₁, tk₁, β, K₁, t', rfl, k, fr, R', rfl, q'⟩ := p
  have st : StepS f W s α H h₁ β (H ++ K₁) := .of k fr
  cases t with
  | true =>
    simp only [if_true] at q' ⊢
    exact wpAny_mono (h1 W { s with heap := h₁, toks := tk₁ } (α ++ β) ρ (H ++ K₁) N R Y E hW T (F.up k fr) R' (hY.later st (.of k)) q') (fun _ _ p => p.trans st (.of k)) fun _ _ x => x
  | false =>
    simp only [Bool.false_eq_true, if_false] at q' ⊢
    exact wpAny_mono (h2 W { s with heap := h₁, toks := tk₁ } (α ++ β) ρ (H ++ K₁) N R Y E hW T (F.up k fr) R' (hY.later st (.of k)) q') (fun _ _ p => p.trans st (.of k)) fun _ _ x => x

theorem raise_none {W : Nat → Prop} {s : Shared} {α : List Addr} {H : Hp} {E : Value → Shared → Prop} : RaiseOk X f W s α H (fun _ _ => False) E := fun _ _ _ _ _ _ _ _ _ _ _ _ y => y.elim

theorem ss_whl {c : PE} {b : PS} {v : Expr} {x : List Stmt} {pos : Pos} (K : FCOk f) (h : SC X f.c c v) (h1 : SB X f b x) : SS X f (.whl c b) (.While v x [] pos) := fun W s α ρ H N R Y E hW T F HR' hY q => by
  simp only [wpS] at q
  obtain ⟨I, μ, hI, turn⟩ := q
  refine wpAny_While (codeAny_whileLoop
    (fun n s' => ∃ h' tk β H' ρ', s' = { s with heap := h', toks := tk } ∧ StepS f W s α H h' β H' ∧ Lives s.heap h' ∧ HR X.G (α ++ β) h' H' ∧ FrS X.G f W h' (α ++ β) ρ' ∧ I ρ' H' ∧ n = μ ρ' H') ?_ (μ ρ H)
    ⟨s.heap, s.toks, [], H, ρ, rfl, .refl, fun b o e => ⟨o, e⟩, by simpa using HR', by simpa using F, hI, rfl⟩)
  rintro n s' ⟨h', tk, β, H', ρ', rfl, st, lv, R', F', hI', rfl⟩
  have q := turn ρ' H' hI'
  refine wpAny_mono (h f.env { s with heap := h', toks := tk } (α ++ β) ρ' H' (fun t H2 => if t then wpS X.sub X.Φ W b ρ' H2 (fun ρ3 H3 => I ρ3 H3 ∧ μ ρ3 H3 < μ ρ' H') R (fun _ _ => False) else N ρ' H2) _ K.env (T.at F') R' F'.fi q) (fun t s₁ p => ?_) fun _ _ x => x
  obtain ⟨h₁, tk₁, γ, K₁, t', rfl, k, fr, R₁, rfl, q'⟩ := p
  dsimp only at k fr
  have st1 : StepS f W { s with heap := h', toks := tk } (α ++ β) H' h₁ γ (H' ++ K₁) := .of k fr
  have st2 := st.trans lv st1
  have lv2 := lv.trans (.of k)
  have F₁ := F'.up k fr
  cases t with
  | true =>
    simp only [if_true] at q' ⊢
    refine wpAny_mono (h1 W { s with heap := h₁, toks := tk₁ } ((α ++ β) ++ γ) ρ' (H' ++ K₁) _ R _ _ hW T F₁ R₁ raise_none q') (fun fl s₂ p => ?_) fun _ _ x => x
    cases fl with
    | next =>
      obtain ⟨h₂, tk₂, δ, H₂, rfl, st3, lv3, R₂, ρ₂, F₂, hI₂, hμ⟩ := p
      refine ⟨_, hμ, h₂, tk₂, (β ++ γ) ++ δ, H₂, ρ₂, rfl, st2.trans (tk := tk₁) lv2 (by simpa using st3), lv2.trans lv3, by simpa using R₂, by simpa using F₂, hI₂, rfl⟩
    | ret v =>
      obtain ⟨h₂, tk₂, δ, H₂, rfl, st3, lv3, R₂, kk, d, r, q₂⟩ := p
      exact ⟨h₂, tk₂, (β ++ γ) ++ δ, H₂, rfl, st2.trans (tk := tk₁) lv2 (by simpa using st3), lv2.trans lv3, by simpa using R₂, kk, d, by simpa using r, q₂⟩
    | brk => obtain ⟨_, _, _, _, _, _, _, _, q⟩ := p; exact q.elim
    | cont => obtain ⟨_, _, _, _, _, _, _, _, q⟩ := p; exact q.elim
  | false =>
    simp only [Bool.false_eq_true, if_false] at q' ⊢
    refine wpAny_execs_nil ?_
    exact ⟨h₁, tk₁, β ++ γ, H' ++ K₁, rfl, st2, lv2, by simpa using R₁, ρ', by simpa using F₁, q'⟩
end
end Mine

set_option autoImplicit false
set_option linter.unusedVariables false
namespace Mine
open PySem PyProof.Rows PySem.Calls

section
variable {X : SX} {f : FC}

theorem notL {G : GV} {W : Nat → Prop} {h : Heap} {α : List Addr} {ρ : Loc} (F : FrS G f W h α ρ) {b : Addr} {o : Obj} (e : h.get? b = some o) (hd : ∀ es n, o.data ≠ .dict es n) : b ≠ f.env.locals := fun q => by
  obtain ⟨m, cm, ⟨o', es, ep, ho', hd', _⟩, _⟩ := F.fr
  rw [← q, e] at ho'; cases ho'; exact hd _ _ hd'
theorem notCell {G : GV} {W : Nat → Prop} {h : Heap} {α : List Addr} {ρ : Loc} (K : FCOk f) (F : FrS G f W h α ρ) {b : Addr} {o : Obj} (e : h.get? b = some o) (hd : ∀ v, o.data ≠ .cell v) : ∀ n, (n, b) ∉ f.env.cells := fun n hm => by
  obtain ⟨m, cm, _, hc, _⟩ := F.fr
  obtain ⟨o', ho', hd'⟩ := hc.cell n b (K.uniq n b hm)
  rw [e] at ho'; cases ho'; exact hd _ hd'
theorem notList {G : GV} {h : Heap} {α : List Addr} {H : Hp} (R : HR G α h H) {b : Addr} {o : Obj} (e : h.get? b = some o) (hd : o.cls ≠ .type "list" ∨ ∀ xs n, o.data ≠ .seq xs n) (n : Nat) : α[n]? ≠ some b := fun ha => by
  obtain ⟨xs, hx⟩ := R.at ha
  obtain ⟨vs, ⟨o', ho', hc', k, hd'⟩, _⟩ := R.lst n b xs ha hx
  rw [e] at ho'; cases ho'
  rcases hd with hd | hd
  · exact hd hc'
  · exact hd _ _ hd'

theorem StepS.tup {G : GV} {W : Nat → Prop} {s : Shared} {α : List Addr} {H : Hp} {ρ : Loc} {h' : Heap} {β : List Addr} {H' : Hp} (K : FCOk f) (F : FrS G f W s.heap α ρ) (R : HR G α s.heap H) (st : StepS f W s α H h' β H') : KeepsT s.heap h' := fun a items x => by
  obtain ⟨o, ho, hc, n, hd⟩ := x
  refine ⟨o, st.keep a o ho (notL F ho (by simp [hd])) (notCell K F ho (by simp [hd])) fun k hk => ?_, hc, n, hd⟩
  exact absurd hk (notList R ho (.inl (by rw [hc]; decide)) k)
end
end Mine

set_option autoImplicit false
set_option linter.unusedVariables false
namespace Mine
open PySem PyProof.Rows PySem.Calls

section
variable {X : SX} {f : FC}

end
end Mine

set_option autoImplicit false
set_option linter.unusedVariables false
namespace Mine
open PySem PyProof.Rows PySem.Calls

section
variable {X : SX} {f : FC}

/-- a new object turns that is none of the frame's -/
theorem FrS.other {G : GV} {W : Nat → Prop} {h h' : Heap} {α : List Addr} {ρ : Loc} {C : Addr} (K : FCOk f) (F : FrS G f W h α ρ) (hs : Heap.SameBut C h h') (hL : C ≠ f.env.locals) (hc : ∀ n, (n, C) ∉ f.env.cells) (hb : f.hb.get? C = none) (kt : KeepsT h h') : FrS G f W h' α ρ := by
  obtain ⟨m, cm, hn, hcl, hv⟩ := F.fr
  refine ⟨⟨m, cm, hn.sameBut hs (Ne.symm hL), ⟨fun x a e => (hcl.cell x a e).sameBut hs fun q => hc x (q ▸ PySem.mem_of_lookup e), hcl.apart, hcl.above⟩, fun i x d e1 e2 => ?_⟩, fun b o e => hs.extBut b o (fun q => by rw [q, hb] at e; cases e) (F.kb b o e), F.wb⟩
  obtain ⟨v, hv, r⟩ := hv i x d e1 e2
  exact ⟨v, hv, r.mono (fun _ _ e => e) kt⟩

end
end Mine

set_option autoImplicit false
set_option linter.unusedVariables false
set_option linter.unusedSectionVars false
namespace Mine
open PySem PyProof.Rows PySem.Calls

section
variable {X : SX} {f : FC}

end
end Mine

set_option autoImplicit false
set_option linter.unusedVariables false
namespace Mine
open PySem PyProof.Rows PySem.Calls

/-- the post of a call behind which the frame's own object may have turned its slots -/
inductive PostT (G : GV) (f : FC) (s : Shared) (α : List Addr) (H : Hp) (Q : V → Hp → Prop) (v : Value) (s' : Shared) : Prop
  | mk (h' : Heap) (tk : Nat) (β : List Addr) (K : Hp) (d : V) (e : s' = { s with heap := h', toks := tk }) (k : ∀ b o, s.heap.get? b = some o → b ≠ f.env.locals → h'.get? b = some o)
    (l : ∀ m, s.heap.Ns f.env.locals m → h'.Ns f.env.locals m) (fr : ∀ b ∈ β, s.heap.get? b = none) (R : HR G (α ++ β) h' (H ++ K)) (r : Rep G (α ++ β) h' v d) (q : Q d (H ++ K))

/-- a call that may raise within and catch -/
noncomputable def STry (X : SX) (f : FC) : Prop :=
  ∀ (k : Nat) (x : Str) (vs : List V) (H : Hp) (Q : V → Hp → Prop), f.c.g.fns[k]? = some x → X.Φ (k + 1000) vs H Q (fun _ _ => False) → ∀ (W : Nat → Prop) (s : Shared) (α : List Addr) (ρ : Loc) (vals : List Value) (E : Value → Shared → Prop),
    GF X.G f.c.g X.DT f.hb → FrS X.G f W s.heap α ρ → HR X.G α s.heap H → Reps X.G α s.heap vals vs → wpAny (model X.prog X.w) X.A (call (.ref (X.G.fa k)) vals) (PostT X.G f s α H Q) E s

section
variable {X : SX} {f : FC}
theorem PostT.trans {s : Shared} {α : List Addr} {H : Hp} {Q : V → Hp → Prop} {h₁ : Heap} {tk₁ : Nat} {β : List Addr} {K : Hp} {v : Value} {s' : Shared} (k : KeepsH s.heap h₁) (fr : ∀ b ∈ β, s.heap.get? b = none)
    (p : PostT X.G f { s with heap := h₁, toks := tk₁ } (α ++ β) (H ++ K) Q v s') : PostT X.G f s α H Q v s' := by
  obtain ⟨h', tk, β', K', d, rfl, k', l', fr', R', r', q'⟩ := p
  refine ⟨h', tk, β ++ β', K ++ K', d, rfl, fun b o e n => k' b o (k b o e) n, fun m e => l' m (e.keeps k), fun b hb => ?_, by simpa using R', by simpa using r', by simpa using q'⟩
  rcases List.mem_append.mp hb with hb | hb
  · exact fr b hb
  · cases e : s.heap.get? b with
    | none => rfl
    | some o => have := k b o e; rw [show h₁.get? b = none from fr' b hb] at this; cases this

theorem call_fnT {k : Nat} {x : Str} {ps : PEs} {e : Expr} {es : List Expr} {pos : Pos} (hT : STry X f) (hf : f.c.g.fns[k]? = some x) (hn : notStar e = true) (h : SEs X f.c ps (e :: es))
    (W : Nat → Prop) (s : Shared) (α : List Addr) (ρ : Loc) (H : Hp) (Q : V → Hp → Prop) (E : Value → Shared → Prop) (O : EnvOk f.c f.env) (T : GF X.G f.c.g X.DT f.hb) (R : HR X.G α s.heap H) (F : FrS X.G f W s.heap α ρ)
    (q : wpEs X.sub X.Φ ps ρ H fun vs H1 => X.Φ (k + 1000) vs H1 Q fun _ _ => False) :
    wpAny (model X.prog X.w) X.A (callWith pos (.ref (X.G.fa k)) [] (backTo pos (starEach (e :: es) f.env)) []) (PostT X.G f s α H Q) E s := by
  obtain ⟨_, d, o, pm, cd, doc, _, _, ho, hd, _⟩ := (T.at F).fn k x hf
  refine callWith_def hd (wpAny_mono (h f.env s α ρ H _ E pos O (T.at F) R F.fi q) (fun vs s₁ p => ?_) fun _ _ y => y) (starEach_cons hn)
  obtain ⟨h₁, tk₁, β, K, ds, rfl, k', f', R', r, q'⟩ := p
  refine ⟨k' _ _ ho, ?_⟩
  exact wpAny_mono (hT k x ds (H ++ K) Q hf q' W { s with heap := h₁, toks := tk₁ } (α ++ β) ρ vs E T (F.up k' f') R' r.1) (fun _ _ p => p.trans k' f') fun _ _ y => y

theorem Lives.turn {W : Nat → Prop} {s : Shared} {α : List Addr} {ρ : Loc} {h' : Heap} (F : FrS X.G f W s.heap α ρ) (k : ∀ b o, s.heap.get? b = some o → b ≠ f.env.locals → h'.get? b = some o) (l : ∀ m, s.heap.Ns f.env.locals m → h'.Ns f.env.locals m) : Lives s.heap h' := fun b o e => by
  by_cases hb : b = f.env.locals
  · subst hb
    obtain ⟨m, cm, hn, _⟩ := F.fr
    obtain ⟨o', _, _, e', _⟩ := l m hn
    exact ⟨_, e'⟩
  · exact ⟨o, k b o e hb⟩
theorem ss_rett {k : Nat} {x : Str} {ps : PEs} {e : Expr} {es : List Expr} {p pos pos' : Pos} (K : FCOk f) (hT : STry X f) (hf : f.c.g.fns[k]? = some x) (hx : f.c.isGlob x = true) (hn : notStar e = true) (h : SEs X f.c ps (e :: es)) :
    SS X f (.rett k ps) (.Return (some (.Call (.Name x p) (e :: es) [] pos)) pos') := fun W s α ρ H N R Y E hW T F HR' hY q => by
  simp only [wpS] at q
  refine wpAny_Return_some (wpAny_mono (Call_ (load_glob K.env hx (T.at F).g ((T.at F).fn k x hf).1 (call_fnT hT hf hn h W s α ρ H R E K.env T HR' F q))) (fun v s₁ p => ?_) fun _ _ x => x)
  obtain ⟨h₁, tk₁, β, K₁, d, rfl, k, l, fr, R', r, q⟩ := p
  refine ⟨h₁, tk₁, β, H ++ K₁, rfl, ⟨fun b o e n _ _ => k b o e n, fr, fun n hn _ => List.getElem?_append_left hn, by simp⟩, Lives.turn F k l, R', fun b o e => ?_, d, r, q⟩
  · refine k b o (F.kb b o e) fun hb => ?_
    subst hb
    rw [K.deadL] at e; cases e

theorem FrS.turn {W : Nat → Prop} {s : Shared} {α β : List Addr} {ρ : Loc} {h' : Heap} (K : FCOk f) (F : FrS X.G f W s.heap α ρ) (k : ∀ b o, s.heap.get? b = some o → b ≠ f.env.locals → h'.get? b = some o)
    (l : ∀ m, s.heap.Ns f.env.locals m → h'.Ns f.env.locals m) (fr : ∀ b ∈ β, s.heap.get? b = none) : FrS X.G f W h' (α ++ β) ρ := by
  obtain ⟨m, cm, hn, hc, hv⟩ := F.fr
  have kt : KeepsT s.heap h' := fun a items x => by
    obtain ⟨o, ho, hc', n, hd⟩ := x
    refine ⟨o, k a o ho fun ha => ?_, hc', n, hd⟩
    subst ha
    obtain ⟨o', es, ep, ho', hd', _⟩ := hn
    rw [ho] at ho'; cases ho'
    rw [hd] at hd'; cases hd'
  refine ⟨⟨m, cm, ?_, ?_, fun i x d e1 e2 => ?_⟩, fun b o e => ?_, fun n a ha hw => ?_⟩
  · exact l m hn
  · exact hc.extBut (fun c o n e => k c o e n) (Nat.le_refl _)
  · obtain ⟨v, hv, r⟩ := hv i x d e1 e2
    exact ⟨v, hv, r.mono ext_app kt⟩
  · refine k b o (F.kb b o e) fun hb => ?_
    subst hb
    rw [K.deadL] at e; cases e
  · by_cases hl : n < α.length
    · rw [List.getElem?_append_left hl] at ha; exact F.wb n a ha hw
    · rw [List.getElem?_append_right (by omega)] at ha
      have hm := fr a (List.mem_of_getElem? ha)
      cases e : f.hb.get? a with
      | none => rfl
      | some o => have := F.kb a o e; rw [hm] at this; cases this
end
end Mine

set_option autoImplicit false
set_option linter.unusedVariables false
set_option linter.unusedSectionVars false
namespace Mine
open PySem PyProof.Rows PySem.Calls

/-- a name's assignment -/
theorem inv_assign1 {P : Expr → Bool} {ts : List Expr} (h : (match isOne ts with | some t => P t | none => false) = true) : ∃ t, ts = [t] ∧ P t = true := by
  cases h1 : isOne ts with
  | none => rw [h1] at h; exact (Bool.false_ne_true h).elim
  | some t => rw [h1] at h; exact ⟨t, one_spec h1, h⟩

section
variable {X : SX} {f : FC} (hA : AOk X.A) (hΦ : SCall X.prog X.w X.G f.c.g X.DT X.A X.Φ) (K : FCOk f) (hT : STry X f)
include hA hΦ K hT

mutual
theorem soundS : (ps : PS) → ∀ (st : Stmt), matchS f.c ps st = true → SS X f ps st
  | .skip, st, h => (Bool.false_ne_true h).elim
  | .seq _ _, st, h => (Bool.false_ne_true h).elim
  | .assign i e, st, h => by
    cases st <;> first | exact (Bool.false_ne_true h).elim | skip
    rename_i ts v pos
    replace h := inv_assign1 h
    obtain ⟨t, rfl, h⟩ := h
    replace h := Bool.and_eq_true_iff.mp h
    have h1 := Bool.and_eq_true_iff.mp h.1
    obtain ⟨x, px, rfl, hx⟩ := varNm_spec h1.1
    rcases Bool.or_eq_true_iff.mp h.2 with hc | hc
    · exact ss_assign K hx (soundE hA hΦ e f.c.scope f.c.names v h1.2).1 hc
    · cases e with
      | comp elt tg caps it cond =>
        exact (Bool.false_ne_true h1.2).elim
      | _ => exact (Bool.false_ne_true hc).elim
  | .unpack _ _, st, h => (Bool.false_ne_true h).elim
  | .setidx _ _ _, st, h => (Bool.false_ne_true h).elim
  | .app _ _, st, h => (Bool.false_ne_true h).elim
  | .pop _, st, h => (Bool.false_ne_true h).elim
  | .rev _, st, h => (Bool.false_ne_true h).elim
  | .ret e, st, h => by
    cases st <;> first | exact (Bool.false_ne_true h).elim | skip
    rename_i o pos
    cases o with
    | none => exact (Bool.false_ne_true h).elim
    | some v => exact ss_ret K (soundE hA hΦ e f.c.scope f.c.names _ h).1
  | .ite c a b, st, h => by
    cases st <;> first | exact (Bool.false_ne_true h).elim | skip
    replace h := Bool.and_eq_true_iff.mp h
    have h1 := Bool.and_eq_true_iff.mp h.1
    exact ss_ite K (soundE hA hΦ c f.c.scope f.c.names _ h1.1).2 (soundB a _ h1.2) (soundB b _ h.2)
  | .whl c b, st, h => by
    cases st <;> first | exact (Bool.false_ne_true h).elim | skip
    replace h := Bool.and_eq_true_iff.mp h
    have h1 := Bool.and_eq_true_iff.mp h.1
    have h0 := List.isEmpty_iff.mp h1.1
    subst h0
    exact ss_whl K (soundE hA hΦ c f.c.scope f.c.names _ h1.2).2 (soundB b _ h.2)
  | .forr _ _ _, st, h => (Bool.false_ne_true h).elim
  | .raise k, st, h => fun W s α ρ H N R Y E hW T F HR' hY q => by
    simp only [wpS] at q
    exact wpAny_mono (hY k st s.heap s.toks [] H ρ h .refl (fun b o e => ⟨o, e⟩) (by simpa using HR') (by simpa using F) q) (fun _ _ f => f.elim) fun _ _ e => e
  | .opaq, st, h => (Bool.false_ne_true h).elim
  | .rett k es, st, h => by
    cases st <;> first | exact (Bool.false_ne_true h).elim | skip
    rename_i o pos
    cases o with
    | none => exact (Bool.false_ne_true h).elim
    | some v =>
      replace h : matchE f.c (.call k es) v = true := h
      obtain ⟨x, p, a, r, pos, rfl, h1, h2, h3⟩ := inv_call h
      obtain ⟨hs, hn⟩ := soundEs hA hΦ es f.c.scope f.c.names _ h3
      exact ss_rett K hT h1 h2 (Bool.and_eq_true_iff.mp hn).1 hs
  | .asst _ _ _, st, h => (Bool.false_ne_true h).elim
  | .tryc _ _ _ _ _ _, st, h => (Bool.false_ne_true h).elim
theorem soundB : (ps : PS) → ∀ (sts : List Stmt), matchB f.c ps sts = true → SB X f ps sts
  | .skip, sts, h => by
    cases sts with
    | nil => exact sb_nil K
    | cons _ _ => exact (Bool.false_ne_true h).elim
  | .seq a b, sts, h => by
    cases sts with
    | nil => exact (Bool.false_ne_true h).elim
    | cons st sts =>
      replace h := Bool.and_eq_true_iff.mp h
      exact sb_cons K (soundS a _ h.1) (soundB b _ h.2)
  | .assign _ _, sts, h => (Bool.false_ne_true h).elim
  | .unpack _ _, sts, h => (Bool.false_ne_true h).elim
  | .setidx _ _ _, sts, h => (Bool.false_ne_true h).elim
  | .app _ _, sts, h => (Bool.false_ne_true h).elim
  | .pop _, sts, h => (Bool.false_ne_true h).elim
  | .rev _, sts, h => (Bool.false_ne_true h).elim
  | .ret _, sts, h => (Bool.false_ne_true h).elim
  | .ite _ _ _, sts, h => (Bool.false_ne_true h).elim
  | .whl _ _, sts, h => (Bool.false_ne_true h).elim
  | .forr _ _ _, sts, h => (Bool.false_ne_true h).elim
  | .raise _, sts, h => (Bool.false_ne_true h).elim
  | .opaq, sts, h => fun W s α ρ H N R Y E hW T F HR' hY q => (show False from q).elim
  | .rett _ _, sts, h => (Bool.false_ne_true h).elim
  | .asst _ _ _, sts, h => (Bool.false_ne_true h).elim
  | .tryc _ _ _ _ _ _, sts, h => (Bool.false_ne_true h).elim
end
end
end Mine

set_option autoImplicit false
set_option linter.unusedVariables false
namespace Mine
open PySem PyProof.Rows PySem.Calls

theorem cellsFrom_lookup : ∀ (names : List (Str × NameKind)) (n : Nat) (acc : List (Str × Addr)) (x : Str), (names.lookup x = some NameKind.cell ∨ ∃ a, acc.lookup x = some a) → ∃ a, (cellsFrom n names acc).lookup x = some a
  | [], n, acc, x, h => by
    rcases h with h | h
    · simp at h
    · exact h
  | (y, k) :: r, n, acc, x, h => by
    unfold cellsFrom
    by_cases hxy : x = y
    · subst hxy
      rcases h with h | ⟨a, h⟩
      · rw [List.lookup_cons_self] at h; cases h
        rw [if_pos (by rfl)]
        exact cellsFrom_lookup r _ _ x (.inr ⟨n, by rw [List.lookup_cons_self]⟩)
      · by_cases hk : (k == NameKind.cell) = true
        · rw [if_pos hk]; exact cellsFrom_lookup r _ _ x (.inr ⟨n, by rw [List.lookup_cons_self]⟩)
        · rw [if_neg hk]; exact cellsFrom_lookup r _ _ x (.inr ⟨a, h⟩)
    · have hne : (x == y) = false := by simpa using hxy
      have h' : r.lookup x = some NameKind.cell ∨ ∃ a, acc.lookup x = some a := by
        rcases h with h | h
        · rw [List.lookup_cons, hne] at h; exact .inl h
        · exact .inr h
      by_cases hk : (k == NameKind.cell) = true
      · rw [if_pos hk]
        refine cellsFrom_lookup r _ _ x ?_
        rcases h' with h' | ⟨a, h'⟩
        · exact .inl h'
        · exact .inr ⟨a, by rw [List.lookup_cons, hne]; exact h'⟩
      · rw [if_neg hk]; exact cellsFrom_lookup r _ _ x h'

theorem cellsFrom_keys : ∀ (names : List (Str × NameKind)) (n : Nat) (acc : List (Str × Addr)), (cellsFrom n names acc).map (·.1) = ((names.filter fun x => x.2 == NameKind.cell).map (·.1)).reverse ++ acc.map (·.1)
  | [], n, acc => by simp [cellsFrom]
  | (y, k) :: r, n, acc => by
    unfold cellsFrom
    by_cases hk : (k == NameKind.cell) = true
    · rw [if_pos hk, cellsFrom_keys r]; simp [hk]
    · rw [if_neg hk, cellsFrom_keys r]; simp [hk]

theorem lookup_of_nodup {β : Type} : ∀ (l : List (Str × β)) (x : Str) (v : β), (l.map (·.1)).Nodup → (x, v) ∈ l → l.lookup x = some v
  | [], _, _, _, h => by simp at h
  | (y, u) :: r, x, v, hn, h => by
    rw [List.map_cons, List.nodup_cons] at hn
    rcases List.mem_cons.mp h with h | h'
    · cases h; rw [List.lookup_cons_self]
    · have hne : (x == y) = false := by
        simp only [beq_eq_false_iff_ne]
        intro e; subst e
        exact hn.1 (List.mem_map.mpr ⟨_, h', rfl⟩)
      rw [List.lookup_cons, hne]; exact lookup_of_nodup r x v hn.2 h'

theorem bindL_keep {k : Str → Option NameKind} : ∀ (binds : List (Str × Value)) (m : Str → Option Value) (x : Str), x ∉ binds.map (·.1) → bindL k binds m x = m x
  | [], _, _, _ => rfl
  | (n, v) :: r, m, x, h => by
    simp only [List.map_cons, List.mem_cons, not_or] at h
    unfold bindL
    rw [bindL_keep r _ x h.2]
    split
    · exact if_neg h.1
    · rfl
theorem bindL_get {k : Str → Option NameKind} : ∀ (binds : List (Str × Value)) (m : Str → Option Value) (x : Str) (v : Value), (binds.map (·.1)).Nodup → (x, v) ∈ binds → k x = some .local → bindL k binds m x = some v
  | [], _, _, _, _, h, _ => by simp at h
  | (n, u) :: r, m, x, v, hn, h, hk => by
    rw [List.map_cons, List.nodup_cons] at hn
    unfold bindL
    rcases List.mem_cons.mp h with h | h
    · cases h
      rw [bindL_keep r _ _ hn.1, if_pos hk]; exact if_pos rfl
    · exact bindL_get r _ x v hn.2 h hk
theorem bindC_keep {k : Str → Option NameKind} : ∀ (binds : List (Str × Value)) (m : Str → Option Value) (x : Str), x ∉ binds.map (·.1) → bindC k binds m x = m x
  | [], _, _, _ => rfl
  | (n, v) :: r, m, x, h => by
    simp only [List.map_cons, List.mem_cons, not_or] at h
    unfold bindC
    rw [bindC_keep r _ x h.2]
    split
    · rfl
    · exact if_neg h.1
theorem bindC_get {k : Str → Option NameKind} : ∀ (binds : List (Str × Value)) (m : Str → Option Value) (x : Str) (v : Value), (binds.map (·.1)).Nodup → (x, v) ∈ binds → k x ≠ some .local → bindC k binds m x = some v
  | [], _, _, _, _, h, _ => by simp at h
  | (n, u) :: r, m, x, v, hn, h, hk => by
    rw [List.map_cons, List.nodup_cons] at hn
    unfold bindC
    rcases List.mem_cons.mp h with h | h
    · cases h
      rw [bindC_keep r _ _ hn.1, if_neg hk]; exact if_pos rfl
    · exact bindC_get r _ x v hn.2 h hk

theorem get_ge_none {h : Heap} {a : Addr} (ha : h.objs.size ≤ a) : h.get? a = none := by
  cases e : h.get? a with
  | none => rfl
  | some o => exact absurd (Heap.lt_size e) (Nat.not_lt.mpr ha)

/-- a def of the text and its mini form -/
structure DefOk (gc : GC) (d : DefT) (f : Fn) (vs : List Str) : Prop where
  nodup : vs.Nodup
  kind : d.scope.kind = .function
  coro : d.scope.isCoroutine = false
  gen : d.scope.isGenerator = false
  nofree : ∀ x, d.scope.names.lookup x ≠ some NameKind.free
  uniq : ((d.scope.names.filter fun x => x.2 == NameKind.cell).map (·.1)).Nodup
  par : ∀ x ∈ vs.take f.np, d.scope.names.lookup x = some .local ∨ d.scope.names.lookup x = some .cell
  bind : ∀ (pm cd doc : Value) (vals : List Value), vals.length = f.np → bindArgs (docDef d.name d.params d.body d.scope pm cd doc) ⟨vals, []⟩ = pure ((vs.take f.np).zip vals)
  body : matchB ⟨gc, d.scope, vs⟩ f.body d.body = true

theorem envOk_of {gc : GC} {d : DefT} {f : Fn} {vs : List Str} (D : DefOk gc d f vs) (L a : Addr) (cd : Value) : EnvOk ⟨gc, d.scope, vs⟩ (envOfC d.name d.scope L a cd) where
  kind := D.kind
  globals := rfl
  builtins := rfl
  loc := fun x e => e
  glob := fun x e => e
  cel := fun x e => e
  fre := fun x e => absurd e (D.nofree x)
  cells := fun x e => by
    rcases e with e | e
    · exact cellsFrom_lookup _ _ _ x (.inl e)
    · exact absurd e (D.nofree x)

theorem zip_get {β : Type} : ∀ {xs : List Str} {ys : List β} {i : Nat} {x : Str} {y : β}, xs[i]? = some x → ys[i]? = some y → (x, y) ∈ xs.zip ys
  | [], _, _, _, _, h, _ => by simp at h
  | _ :: _, [], _, _, _, _, h => by simp at h
  | _ :: _, _ :: _, 0, _, _, h1, h2 => by simp at h1 h2; subst h1 h2; simp
  | _ :: _, _ :: _, i + 1, _, _, h1, h2 => by
    simp at h1 h2
    simp only [List.zip_cons_cons, List.mem_cons]
    exact .inr (zip_get h1 h2)

theorem lget_start {np nv : Nat} {vs : List V} {i : Nat} {d : V} (h : lget (startLoc np nv vs) i = some d) : vs[i]? = some d := by
  have key : ∀ (l : List V) (n i : Nat), lget (l.map some ++ List.replicate n none) i = some d → l[i]? = some d := fun l => by
    induction l with
    | nil =>
      intro n
      induction n with
      | zero => intro i h; simp [lget] at h
      | succ n ih =>
        intro i h
        cases i with
        | zero => simp [List.replicate_succ, lget] at h
        | succ i => exact absurd (ih i (by simpa [List.replicate_succ, lget] using h)) (by simp)
    | cons x l ih =>
      intro n i h
      cases i with
      | zero => simpa [lget] using h
      | succ i => simpa using ih n i (by simpa [lget] using h)
  exact key vs _ i h

/-- the room that n calls need -/
structure Room (A : Around) (n : Nat) : Prop where
  handled : A.handled = none
  depth : A.depth + n < recursionLimit
  units : A.units + 3 * n + 100 < cLine

theorem Room.ok {A : Around} {n : Nat} (r : Room A n) : AOk A := ⟨r.handled, by have := r.units; omega⟩
theorem Room.down {A : Around} {n : Nat} {env : Env} (r : Room A (n + 1)) : Room (A.deeper env) n :=
  ⟨r.handled, by have := r.depth; show A.depth + 1 + n < _; omega, by have := r.units; show A.units + 3 + 3 * n + 100 < _; omega⟩

section
variable {prog : Program} {w : World} {G : GV} {gc : GC} {DT : List DefT} {P : List Fn} {VT : List (List Str)} {sub : Nat → Nat → Bool}

theorem take_eq_of_same {H H' : Hp} (hs : ∀ n, n < H.length → H'[n]? = H[n]?) (hl : H.length ≤ H'.length) : H' = H ++ H'.drop H.length := by
  conv => lhs; rw [← List.take_append_drop H.length H']
  congr 1
  apply List.ext_getElem?
  intro n
  by_cases hn : n < H.length
  · rw [List.getElem?_take, if_pos hn]; exact hs n hn
  · rw [List.getElem?_take, if_neg hn, List.getElem?_eq_none (by omega)]

noncomputable def SCallC (prog : Program) (w : World) (G : GV) (gc : GC) (DT : List DefT) (A : Around) (Φ : Call) : Prop :=
  ∀ (f : Nat) (x : Str) (vs : List V) (H : Hp) (Q : V → Hp → Prop), gc.fns[f]? = some x → Φ f vs H Q (fun _ _ => False) → ∀ (s : Shared) (α : List Addr) (vals : List Value) (E : Value → Shared → Prop),
    GF G gc DT s.heap → HR G α s.heap H → Reps G α s.heap vals vs → codeAny (model prog w) A (.call (.ref (G.fa f)) ⟨vals, []⟩)
      (fun r s' => match r with | .ok (.ret v) => Post G (Rep G) s α H Q v s' | .ok _ => False | .error e => E e s') s
theorem SCallC.wp {A : Around} {Φ : Call} (h : SCallC prog w G gc DT A Φ) : SCall prog w G gc DT A Φ := fun f x vs H Q hx hq s α vals E T R r => wpAny_call (h f x vs H Q hx hq s α vals E T R r)

/-- one call of an own def -/
theorem call_step {n : Nat} {A : Around} {Φ : Call} {f : Nat} {s : Shared} (hA : Room A (n + 1)) (hdefs : ∀ (k : Nat) (d : DefT) (f : Fn), DT[k]? = some d → P[k]? = some f → ∃ vs, DefOk gc d f vs) (hΦ : ∀ env, SCall prog w G gc DT (A.deeper env) Φ)
    (hT : ∀ (d : DefT) (vn : List Str) (cd : Value), DT[f]? = some d →
      STry ⟨prog, w, G, DT, A.deeper (envOfC d.name d.scope s.heap.objs.size (G.fa f) cd), sub, Φ⟩ ⟨⟨gc, d.scope, vn⟩, envOfC d.name d.scope s.heap.objs.size (G.fa f) cd, s.heap⟩)
    {x : Str} {vs : List V} {H : Hp} {Q : V → Hp → Prop} {fd : Fn} (hx : gc.fns[f]? = some x) (hf : P[f]? = some fd) (hlen : vs.length = fd.np)
    (hw : wpS sub Φ (fun m => H.length ≤ m) fd.body (startLoc fd.np fd.nv vs) H (fun _ H' => Q .none H') Q (fun _ _ => False)) (α : List Addr) (vals : List Value) (E : Value → Shared → Prop)
    (T : GF G gc DT s.heap) (R : HR G α s.heap H) (r : Reps G α s.heap vals vs) : codeAny (model prog w) A (.call (.ref (G.fa f)) ⟨vals, []⟩)
      (fun r s' => match r with | .ok (.ret v) => Post G (Rep G) s α H Q v s' | .ok _ => False | .error e => E e s') s := by
  obtain ⟨hm, d, o, pm, cd, doc, hd, hname, ho, hdata, hcd⟩ := T.fn f x hx
  obtain ⟨vn, D⟩ := hdefs f d fd hd hf
  have hvl : vals.length = fd.np := r.len.trans hlen
  have hkindOf : ∀ (x : Str), x ∈ vn.take fd.np → d.scope.names.lookup x = some .local ∨ (d.scope.names.lookup x = some .cell ∧ ((cellsFrom (s.heap.objs.size + 1) d.scope.names []).lookup x).isSome = true) := fun x hx => by
    rcases D.par x hx with e | e
    · exact .inl e
    · obtain ⟨a, ha⟩ := cellsFrom_lookup d.scope.names (s.heap.objs.size + 1) [] x (.inl e)
      exact .inr ⟨e, by rw [ha]; rfl⟩
  have hmemz : ∀ y ∈ (vn.take fd.np).zip vals, y.1 ∈ vn.take fd.np := fun y hy => (List.of_mem_zip (show (y.1, y.2) ∈ _ from hy)).1
  refine (call_cells (by have := hA.depth; omega) ho hdata T.nolimit hcd (D.bind pm cd doc vals hvl) (fun y hy => hkindOf y.1 (hmemz y hy)) (fun h₁ tk Fr' Cl' => ?_) D.coro D.gen D.kind)
  let env := envOfC d.name d.scope s.heap.objs.size (G.fa f) cd
  let fc : FC := ⟨⟨gc, d.scope, vn⟩, env, s.heap⟩
  let X : SX := ⟨prog, w, G, DT, A.deeper env, sub, Φ⟩
  have K : FCOk fc := by
    refine ⟨envOk_of D _ _ _, D.nodup, D.nofree, size_none _, fun m a hm => get_ge_none (Nat.le_of_lt (Cl'.above m a hm)), Cl'.above, Cl'.apart, fun m a hm => ?_⟩
    refine lookup_of_nodup _ _ _ ?_ hm
    show ((cellsFrom _ _ _).map (·.1)).Nodup
    rw [cellsFrom_keys]
    rw [List.map_nil, List.append_nil]
    exact (List.reverse_perm _).nodup_iff.mpr D.uniq
  have hnd : (((vn.take fd.np).zip vals).map (·.1)).Nodup := by
    refine List.Nodup.sublist ?_ (List.Nodup.sublist (List.take_sublist fd.np vn) D.nodup)
    have : ∀ (a : List Str) (b : List Value), ((a.zip b).map (·.1)).Sublist a := fun a => by
      induction a with
      | nil => intro b; simp
      | cons x a ih => intro b; cases b with
        | nil => simp
        | cons y b => simpa using ih b
    exact this _ _
  have hkeep : KeepsH s.heap h₁ := Fr'.keep
  have F : FrS G fc (fun m => H.length ≤ m) h₁ α (startLoc fd.np fd.nv vs) := by
    refine ⟨⟨_, _, Fr'.ns, Cl', fun i y dv hi hd' => ?_⟩, hkeep, fun m a ha hm => ?_⟩
    · have hvi := lget_start hd'
      obtain ⟨v, hv, rv⟩ := r.get hvi
      have hil : i < fd.np := by rw [← hlen]; exact (List.getElem?_eq_some_iff.mp hvi).1
      have hyt : (vn.take fd.np)[i]? = some y := by rw [List.getElem?_take, if_pos hil]; exact hi
      have hz : (y, v) ∈ (vn.take fd.np).zip vals := zip_get hyt hv
      refine ⟨v, ?_, rv.mono (fun _ _ e => e) (.of hkeep)⟩
      rcases hkindOf y (hmemz _ hz) with e | ⟨e, _⟩
      · exact .inl ⟨e, bindL_get _ _ _ _ hnd hz e⟩
      · exact .inr ⟨e, bindC_get _ _ _ _ hnd hz (by rw [show (envOfC d.name d.scope s.heap.objs.size (G.fa f) cd).kindOf y = some .cell from e]; simp), cellsFrom_lookup _ _ _ y (.inl e)⟩
    · have := (List.getElem?_eq_some_iff.mp ha).1
      rw [R.len] at this; omega
  have hs := soundB (X := X) (f := fc) hA.down.ok (hΦ env) K (hT d vn cd hd) fd.body d.body D.body (fun m => H.length ≤ m) { s with heap := h₁, toks := tk } α _ H _ _ _ (fun _ _ => False)
    (fun m hm => Nat.le_trans R.pos hm) T F (R.keeps hkeep) (fun k st h' tk' β H' ρ' _ _ _ _ _ hf => hf.elim) hw
  refine wpAny_mono hs (fun fl s' p => ?_) fun _ _ e => e.elim
  obtain ⟨h', tk', β, H', rfl, st, lv, R', pf⟩ := p
  have hH' : H' = H ++ H'.drop H.length := take_eq_of_same (fun m hm => st.same m hm (Nat.not_le.mpr hm)) st.le
  have fresh : ∀ b ∈ β, s.heap.get? b = none := fun b hb => by
    cases e : s.heap.get? b with
    | none => rfl
    | some o' => have := st.fresh b hb; rw [show ({ s with heap := h₁, toks := tk } : Shared).heap.get? b = some o' from hkeep b o' e] at this; cases this
  cases fl with
  | next =>
    obtain ⟨ρ', F', hN⟩ := pf
    exact ⟨h', tk', β, _, .none, rfl, F'.kb, fresh, hH' ▸ R', Rep.none, hH' ▸ hN⟩
  | ret v =>
    obtain ⟨kb, dv, rv, hR⟩ := pf
    exact ⟨h', tk', β, _, dv, rfl, kb, fresh, hH' ▸ R', rv, hH' ▸ hR⟩
  | _ => exact pf.elim

theorem scall_callN (hlenP : P.length = gc.fns.length) (hP : P.length ≤ 1000) (hdefs : ∀ (k : Nat) (d : DefT) (f : Fn), DT[k]? = some d → P[k]? = some f → ∃ vs, DefOk gc d f vs) :
    ∀ (n : Nat) (A : Around), Room A n → SCallC prog w G gc DT A (callN sub P n)
  | 0, A, _ => fun f x vs H Q _ h => by simp [callN] at h
  | n + 1, A, hA => fun f x vs H Q hx h s α vals E T R r => by
    simp only [callN] at h
    obtain ⟨fd, hf, hlen, hw⟩ := h
    refine call_step hA hdefs (fun env => (scall_callN hlenP hP hdefs n _ hA.down).wp) (fun d vn cd _ k x vs H Q _ hk => ?_) hx hf hlen hw α vals E T R r
    · replace hk : callN sub P n (k + 1000) vs H Q (fun _ _ => False) := hk
      cases n with
      | zero => simp [callN] at hk
      | succ n =>
        simp only [callN] at hk
        obtain ⟨d', hd', _⟩ := hk
        have := (List.getElem?_eq_some_iff.mp hd').1
        omega
end
end Mine

set_option autoImplicit false
set_option linter.unusedVariables false
namespace Mine
open PySem PyProof.Rows PySem.Calls

theorem lookup_zip : ∀ (ns : List Str) (vals : List Value), ns.Nodup → vals.length = ns.length → ∀ x ∈ ns, (((ns.zip vals).lookup x).isNone) = false
  | [], _, _, _, x, h => by simp at h
  | n :: ns, [], _, h, _, _ => by simp at h
  | n :: ns, v :: vals, hn, hl, x, hx => by
    rw [List.zip_cons_cons]
    by_cases e : x = n
    · subst e; rw [List.lookup_cons_self]; rfl
    · have : (x == n) = false := by simpa using e
      rw [List.lookup_cons, this]
      rw [List.nodup_cons] at hn
      exact lookup_zip ns vals hn.2 (by simpa using hl) x (by simpa [e] using hx)
theorem filterMap_zip : ∀ (ns : List Str) (vals : List Value), ns.Nodup → vals.length = ns.length → (ns.filterMap fun n => ((ns.zip vals).lookup n).map (n, ·)) = ns.zip vals := by
  have key : ∀ (ms : List Str) (us : List Value) (f : Str → Option Value), us.length = ms.length → (∀ n v, (n, v) ∈ ms.zip us → f n = some v) → (ms.filterMap fun n => (f n).map (n, ·)) = ms.zip us := fun ms => by
    induction ms with
    | nil => intro us f _ _; simp
    | cons n ms ih =>
      intro us f hl h
      cases us with
      | nil => simp at hl
      | cons u us =>
        rw [List.filterMap_cons, h n u (by simp), List.zip_cons_cons]
        show (n, u) :: _ = _
        rw [ih us f (by simpa using hl) fun a b hab => h a b (by simp [hab])]
  intro ns vals hn hl
  refine key ns vals _ hl fun n v h => ?_
  refine lookup_of_nodup _ _ _ ?_ h
  have : (ns.zip vals).map (·.1) = ns := List.map_fst_zip (by omega)
  rw [this]; exact hn

theorem bind_plain {name : Str} {params : Arguments} {body : List Stmt} {scope : Scope} {pm cd doc : Value} {vals : List Value} {ns : List Str}
    (h1 : params.posonlyargs = []) (h2 : params.vararg = none) (h3 : params.kwonlyargs = []) (h4 : params.kwarg = none) (hns : params.args.map (·.arg) = ns) (hn : ns.Nodup) (hl : vals.length = ns.length) :
    bindArgs (docDef name params body scope pm cd doc) ⟨vals, []⟩ = pure (ns.zip vals) := by
  obtain ⟨po, ar, va, ko, kd, kw, df⟩ := params
  simp only at h1 h2 h3 h4 hns
  subst h1 h2 h3 h4
  subst hns
  unfold bindArgs
  simp only [docDef, List.map_nil, List.nil_append, List.append_nil]
  generalize List.map (fun x : Arg => x.arg) ar = ns at hn hl ⊢
  have hf : (List.filter (fun n => (List.lookup n (ns.zip vals)).isNone) ns) = [] := by
    rw [List.filter_eq_nil_iff]
    intro x hx
    rw [lookup_zip _ _ hn hl x hx]; simp
  have hg := filterMap_zip _ _ hn hl
  have hns : notAStandIn Value.none = pure () := rfl
  simp [seqItems?, hl, hns]
  have hc : ¬ ((!(List.filter (fun n => (List.lookup n (ns.zip vals)).isNone) (List.take (ns.length - (List.drop ((#[] : Array Value).size - ns.length) ([] : List Value)).length) ns)).isEmpty) = true) := by
    simp only [List.drop_nil, List.length_nil, Nat.sub_zero, List.take_length, hf]; decide
  rw [if_neg hc, hg]
end Mine

set_option autoImplicit false
set_option linter.unusedVariables false
namespace Mine
open PySem PyProof.Rows PySem.Calls PySem.W

noncomputable def toDef (r : DefRec) : DefT := ⟨r.name, r.params, r.body, r.scope⟩

noncomputable def defChk (gc : GC) (d : DefT) (f : Fn) (vs : List Str) : Bool :=
  decide vs.Nodup && decide (d.scope.kind = .function) && (d.scope.isCoroutine == false) && (d.scope.isGenerator == false) && d.scope.names.all (fun x => decide (x.2 ≠ NameKind.free)) &&
  decide ((d.scope.names.filter fun x => x.2 == NameKind.cell).map (·.1)).Nodup &&
  (vs.take f.np).all (fun x => decide (d.scope.names.lookup x = some NameKind.local) || decide (d.scope.names.lookup x = some NameKind.cell)) &&
  d.params.posonlyargs.isEmpty && d.params.vararg.isNone && d.params.kwonlyargs.isEmpty && d.params.kwarg.isNone && decide (d.params.args.map (·.arg) = vs.take f.np) && decide (f.np ≤ vs.length) && matchB ⟨gc, d.scope, vs⟩ f.body d.body

theorem defOk_of {gc : GC} {d : DefT} {f : Fn} {vs : List Str} (h : defChk gc d f vs = true) : DefOk gc d f vs := by
  unfold defChk at h
  simp only [Bool.and_eq_true, decide_eq_true_eq, beq_iff_eq, List.isEmpty_iff, Option.isNone_iff_eq_none] at h
  obtain ⟨⟨⟨⟨⟨⟨⟨⟨⟨⟨⟨⟨⟨h1, h2⟩, h3⟩, h4⟩, h5⟩, h6⟩, h7⟩, h8⟩, h9⟩, h10⟩, h11⟩, h12⟩, h13⟩, h14⟩ := h
  refine ⟨h1, h2, h3, h4, fun x e => ?_, h6, fun x hx => ?_, fun pm cd doc vals hv => ?_, h14⟩
  · have := List.all_eq_true.mp h5 (x, NameKind.free) (PySem.mem_of_lookup e)
    simp at this
  · have := List.all_eq_true.mp h7 x hx
    simpa using this
  · exact bind_plain h8 h9 h10 h11 h12 (List.Nodup.sublist (List.take_sublist _ _) h1) (by rw [hv, List.length_take]; omega)

noncomputable def chkAll (gc : GC) : List DefT → List Fn → List (List Str) → Bool
  | [], [], [] => true
  | d :: ds, f :: fs, v :: vs => defChk gc d f v && chkAll gc ds fs vs
  | _, _, _ => false

theorem defs_of {gc : GC} : ∀ {DT : List DefT} {P : List Fn} {VT : List (List Str)}, chkAll gc DT P VT = true → P.length = DT.length ∧ ∀ (k : Nat) (d : DefT) (f : Fn), DT[k]? = some d → P[k]? = some f → ∃ vs, DefOk gc d f vs
  | [], [], [], _ => ⟨rfl, fun k d f h => by simp at h⟩
  | d :: ds, f :: fs, v :: vs, h => by
    simp only [chkAll, Bool.and_eq_true] at h
    obtain ⟨hl, hr⟩ := defs_of h.2
    refine ⟨by simp [hl], fun k d' f' h1 h2 => ?_⟩
    cases k with
    | zero => simp at h1 h2; subst h1 h2; exact ⟨v, defOk_of h.1⟩
    | succ k => simp at h1 h2; exact hr k d' f' h1 h2
  | [], [], _ :: _, h => by simp [chkAll] at h
  | [], _ :: _, _, h => by simp [chkAll] at h
  | _ :: _, [], _, h => by simp [chkAll] at h
  | _ :: _, _ :: _, [], h => by simp [chkAll] at h

theorem reps_ints {G : GV} {α : List Addr} {h : Heap} : ∀ {vs : List Value} {ns : List Int}, IntsAre vs ns → Reps G α h vs (ns.map .int)
  | _, _, .nil => .nil
  | _, _, .cons n t r => .cons (.int n t) (reps_ints r)

noncomputable def fnAddr (mg : Str → Option Value) (fns : List Str) (k : Nat) : Addr := match fns[k]? with | some x => (match mg x with | some (.ref a) => a | _ => 0) | none => 0

section
variable {prog : Program} {w : World} {view : Program} {loose : List Str} {mean : ExcName → Option Value} {mg mb : Str → Option Value}

theorem gf_plain {h : Heap} {gc : GC} (T : Top view loose mean mg mb h) (hfns : gc.fns = (recsOf view).map (·.name)) (hcls : gc.cls = []) (hglobs : gc.globs = [])
    (hblt : (bltNames.all fun x => !startupNames.contains x && !loose.contains x && !((recsOf view).map (·.name)).contains x && !((litsOf view).map (·.1)).contains x && !((clssOf view loose).map (·.name)).contains x && decide (x ≠ "__name__")) = true) :
    GF ⟨mg, mb, fnAddr mg gc.fns, fun _ => .none⟩ gc ((recsOf view).map toDef) h where
  g := T.g
  b := T.b
  nolimit := T.nolimit
  fn := fun k x e => by
    have e0 := e
    rw [hfns, List.getElem?_map] at e
    cases hr : (recsOf view)[k]? with
    | none => rw [hr] at e; simp at e
    | some r =>
      rw [hr] at e; simp at e; subst e
      obtain ⟨a, o, pm, cd, doc, h1, h2, h3, h4⟩ := T.fn r (List.mem_of_getElem? hr)
      have hfa : fnAddr mg gc.fns k = a := by unfold fnAddr; rw [e0]; simp [h1]
      refine ⟨by show mg r.name = some (.ref (fnAddr mg gc.fns k)); rw [hfa]; exact h1, toDef r, o, pm, cd, doc, by rw [List.getElem?_map, hr]; rfl, rfl, ?_, h3, h4⟩
      show h.get? (fnAddr mg gc.fns k) = some o
      rw [hfa]; exact h2
  blt := fun x hx => by
    have := List.all_eq_true.mp hblt x hx
    simp only [Bool.and_eq_true, Bool.not_eq_true', decide_eq_true_eq] at this
    obtain ⟨⟨⟨⟨⟨h1, h2⟩, h3⟩, h4⟩, h5⟩, h6⟩ := this
    have nm : ∀ {l : List Str}, l.contains x = false → x ∉ l := fun {l} h hm => by
      rw [List.contains_iff_mem.mpr hm] at h; cases h
    exact ⟨T.free x (nm h1) (nm h2) (nm h3) (nm h4) (nm h5), T.builtins x h6⟩
  glob := fun x a b e => by rw [hglobs] at e; simp at e
  cls := fun k x e => by rw [hcls] at e; simp at e

theorem callerRoom {n : Nat} (hn : n ≤ 600) : Room callerA n := ⟨rfl, by show 1 + 300 + n < 1000; omega, by show 4 + 3 * n + 100 < 9900; omega⟩

end
end Mine

set_option autoImplicit false
set_option linter.unusedVariables false
namespace Mine
open PySem

/-- below 2 ^ k either way -/
noncomputable def Sm (k : Nat) (x : Int) : Prop := x.natAbs < 2 ^ k
theorem Sm.mono {k l : Nat} {x : Int} (h : Sm k x) (hl : k ≤ l) : Sm l x := Nat.lt_of_lt_of_le h (Nat.pow_le_pow_right (by decide) hl)
theorem Sm.mul {k l : Nat} {x y : Int} (h1 : Sm k x) (h2 : Sm l y) : Sm (k + l) (x * y) := by
  unfold Sm at *
  rw [Int.natAbs_mul, Nat.pow_add]
  exact Nat.mul_lt_mul'' h1 h2
theorem Sm.add {k : Nat} {x y : Int} (h1 : Sm k x) (h2 : Sm k y) : Sm (k + 1) (x + y) := by
  unfold Sm at *
  rw [Nat.pow_succ]; omega
theorem Sm.sub {k : Nat} {x y : Int} (h1 : Sm k x) (h2 : Sm k y) : Sm (k + 1) (x - y) := by
  unfold Sm at *
  rw [Nat.pow_succ]; omega
theorem Sm.neg {k : Nat} {x : Int} (h1 : Sm k x) : Sm k (-x) := by
  unfold Sm at *; omega
theorem Sm.bits {k : Nat} {x : Int} (h : Sm k x) : Builtin.Int.intBits x ≤ k := by
  unfold Builtin.Int.intBits
  split
  · exact Nat.zero_le _
  · rename_i hx
    have : x.natAbs ≠ 0 := by simpa using hx
    exact (Nat.log2_lt this).mpr h
theorem IntMulOk.left {a b : Int} (h : Sm 64 a) : IntMulOk a b := IntMulOk.of_left h.bits
theorem IntMulOk.right {a b : Int} (h : Sm 64 b) : IntMulOk a b := IntMulOk.of_right h.bits
theorem IntMulOk.sm {k l : Nat} {a b : Int} (h1 : Sm k a) (h2 : Sm l b) (hk : k ≤ 1048576) (hl : l ≤ 1048576) : IntMulOk a b :=
  IntMulOk.of_bits (Nat.le_trans h1.bits (by simpa using hk)) (Nat.le_trans h2.bits (by simpa using hl))

theorem fmod_natAbs_lt {a b : Int} (hb : b ≠ 0) : (a.fmod b).natAbs < b.natAbs := by
  rcases Int.lt_or_gt_of_ne hb with h | h
  · have h1 : a.fmod b = -((-a).fmod (-b)) := by rw [Int.neg_fmod_neg]; omega
    have h2 := Int.fmod_nonneg_of_pos (-a) (b := -b) (by omega)
    have h3 := Int.fmod_lt_of_pos (-a) (b := -b) (by omega)
    omega
  · have h2 := Int.fmod_nonneg_of_pos a h
    have h3 := Int.fmod_lt_of_pos a h
    omega
theorem gcd_fmod {a b : Int} : b.gcd (a.fmod b) = a.gcd b := by
  rw [Int.fmod_def, Int.gcd_comm, Int.mul_comm, Int.gcd_sub_mul_right_left]

theorem getApp {β : Type} (H : List β) (x : β) (K : List β) : (H ++ x :: K)[H.length]? = some x := by simp
theorem getKeep {β : Type} {H H' : List β} {n : Nat} {x : β} (h : H <+: H') (e : H[n]? = some x) : H'[n]? = some x := by
  obtain ⟨K, rfl⟩ := h
  rw [List.getElem?_append_left (List.getElem?_eq_some_iff.mp e).1]; exact e
theorem preApp {β : Type} (H K : List β) : H <+: H ++ K := ⟨K, rfl⟩
end Mine
namespace Mine
end Mine
namespace Mine
open PySem
theorem Sm.pow {k : Nat} {x : Int} (h : Sm k x) : ∀ n : Nat, Sm (k * n + 1) (x ^ n)
  | 0 => by rw [Int.pow_zero]; unfold Sm; simp
  | n + 1 => by
    rw [Int.pow_succ]
    exact Sm.mono (Sm.mul (Sm.pow h n) h) (by rw [Nat.mul_succ]; omega)
end Mine
namespace Mine
end Mine
namespace Mine
open PySem
theorem eqvAll_ints : ∀ xs ys : List Int, PyData.eqvAll (xs.map .int) (ys.map .int) = decide (xs = ys)
  | [], [] => rfl
  | [], _ :: _ => rfl
  | _ :: _, [] => rfl
  | x :: xs, y :: ys => by
    simp only [List.map_cons, PyData.eqvAll, PyData.eqv, eqvAll_ints xs ys, List.cons.injEq]
    by_cases h : x = y <;> simp [h]
end Mine
namespace Mine
open PySem
section
variable {a b c : Int} {m n : Nat} {H : Hp} {Q : V → Hp → Prop} {x y : V} {xs ys : List V}
theorem w_add : binWp .add (.int a) (.int b) H Q = Q (.int (a + b)) H := rfl
theorem w_addl : binWp .add (.lst m) (.lst n) H Q = ifSome H[m]? fun xs => ifSome H[n]? fun ys => xs.length + ys.length ≤ lim ∧ Q (.lst H.length) (H ++ [xs ++ ys]) := rfl
theorem w_sub : binWp .sub (.int a) (.int b) H Q = Q (.int (a - b)) H := rfl
theorem w_mul : binWp .mul (.int a) (.int b) H Q = (IntMulOk a b ∧ Q (.int (a * b)) H) := rfl
theorem w_mull : binWp .mul (.lst m) (.int b) H Q = ∃ x, H[m]? = some [x] ∧ 0 ≤ b ∧ b ≤ lim ∧ Q (.lst H.length) (H ++ [List.replicate b.toNat x]) := rfl
theorem w_fdiv : binWp .fdiv (.int a) (.int b) H Q = (DivOk b ∧ Q (.int (a.fdiv b)) H) := rfl
theorem w_mod : binWp .mod (.int a) (.int b) H Q = (b ≠ 0 ∧ Q (.int (a.fmod b)) H) := rfl
theorem w_pow : binWp .pow (.int a) (.int b) H Q = (0 ≤ b ∧ b ≤ 1000 ∧ a.natAbs < 2 ^ 64 ∧ Q (.int (a ^ b.toNat)) H) := rfl
theorem w_lt : cmpWp .lt (.int a) (.int b) H Q = Q (.bool (decide (a < b))) H := rfl
theorem w_le : cmpWp .le (.int a) (.int b) H Q = Q (.bool (decide (a ≤ b))) H := rfl
theorem w_gt : cmpWp .gt (.int a) (.int b) H Q = Q (.bool (decide (b < a))) H := rfl
theorem w_ge : cmpWp .ge (.int a) (.int b) H Q = Q (.bool (decide (b ≤ a))) H := rfl
theorem w_eq : cmpWp .eq (.int a) (.int b) H Q = Q (.bool (decide (a = b))) H := rfl
theorem w_ne : cmpWp .ne (.int a) (.int b) H Q = Q (.bool (!decide (a = b))) H := rfl
theorem w_eqt : cmpWp .eq (.tup xs) y H Q = eqWp (.tup xs) y H fun b => Q (.bool b) H := rfl
theorem w_eql : cmpWp .eq (.lst m) y H Q = eqWp (.lst m) y H fun b => Q (.bool b) H := rfl
theorem w_net : cmpWp .ne (.tup xs) y H Q = eqWp (.tup xs) y H fun b => Q (.bool (!b)) H := rfl
theorem w_nel : cmpWp .ne (.lst m) y H Q = eqWp (.lst m) y H fun b => Q (.bool (!b)) H := rfl
theorem w_isn : cmpWp .is .none .none H Q = Q (.bool true) H := rfl
theorem w_ist : cmpWp .is (.tup xs) .none H Q = Q (.bool false) H := rfl
theorem w_isi : cmpWp .is (.int a) .none H Q = Q (.bool false) H := rfl
theorem w_isl : cmpWp .is (.lst m) .none H Q = Q (.bool false) H := rfl
theorem w_abs : biWp .abs [.int a] H Q = Q (.int (if a < 0 then -a else a)) H := rfl
theorem w_lent : biWp .len [.tup xs] H Q = Q (.int xs.length) H := rfl
theorem w_lenl : biWp .len [.lst m] H Q = ifSome H[m]? fun xs => Q (.int xs.length) H := rfl
theorem w_intb {t : Bool} : biWp .int [.bool t] H Q = Q (.int (if t then 1 else 0)) H := rfl
theorem w_list : biWp .list [x] H Q = ifSome (items H x) fun xs => Q (.lst H.length) (H ++ [xs]) := rfl
theorem w_tuple : biWp .tuple [x] H Q = ifSome (items H x) fun xs => Q (.tup xs) H := rfl
theorem w_min : biWp .min [.int a, .int b] H Q = Q (.int (if b < a then b else a)) H := rfl
theorem w_idxt0 : idxWp (.tup [x, y]) (.int 0) H Q = Q x H := rfl
theorem w_idxt1 : idxWp (.tup [x, y]) (.int 1) H Q = Q y H := rfl
theorem w_idxu0 {z : V} : idxWp (.tup [x, y, z]) (.int 0) H Q = Q x H := rfl
theorem w_idxu1 {z : V} : idxWp (.tup [x, y, z]) (.int 1) H Q = Q y H := rfl
theorem w_idxu2 {z : V} : idxWp (.tup [x, y, z]) (.int 2) H Q = Q z H := rfl
theorem w_idxl {k : Int} : idxWp (.lst m) (.int k) H Q = ifSome H[m]? fun xs => ifSome (place xs.length k) fun i => ifSome xs[i]? fun v => Q v H := rfl
theorem w_slcl {lo hi : Option V} : slcWp (.lst m) lo hi H Q = ifSome H[m]? fun xs => ifSome (cutAt xs.length lo hi) fun p => Q (.lst H.length) (H ++ [cut xs p.1 p.2]) := rfl
theorem w_slct {lo hi : Option V} : slcWp (.tup xs) lo hi H Q = ((∃ a, lo = some (.int a) ∧ hi = none ∧ 1 ≤ a ∧ a ≤ xs.length ∧ Q (.tup (xs.drop a.toNat)) H) ∨ (lo = none ∧ hi = some (.int (-1)) ∧ xs ≠ [] ∧ Q (.tup xs.dropLast) H)) := rfl
theorem w_tb {t : Bool} : truthV H (.bool t) = some t := rfl
theorem w_ti : truthV H (.int a) = some (a != 0) := rfl
theorem w_tn : truthV H .none = some false := rfl
theorem w_tt : truthV H (.tup xs) = some (!xs.isEmpty) := rfl
theorem w_tl : truthV H (.lst m) = (H[m]?).map fun xs => !xs.isEmpty := rfl
theorem w_itt : items H (.tup xs) = some xs := rfl
theorem w_itl : items H (.lst m) = H[m]? := rfl
theorem w_bindT1 : bindT 1 x = some [some x] := rfl
theorem w_bindT2 : bindT 2 (.tup [x, y]) = some [some x, some y] := rfl
theorem w_srcl : srcOf (.lst m) = some m := rfl
theorem w_srct : srcOf (.tup xs) = none := rfl
theorem w_cut2 {a b : Int} : cutAt n (some (.int a)) (some (.int b)) = some (clampAt n a, clampAt n b) := rfl
theorem w_cut1 {a : Int} : cutAt n (some (.int a)) none = some (clampAt n a, n) := rfl
theorem w_cut1' {a : Int} : cutAt n none (some (.int a)) = some (0, clampAt n a) := rfl
theorem w_cut0 : cutAt n none none = some (0, n) := rfl
variable {sub : Nat → Nat → Bool}
theorem w_ty1 : isTy sub (.int a) .int = some true := rfl
theorem w_ty2 : isTy sub (.int a) .bool = some false := rfl
theorem w_ty3 : isTy sub (.int a) .tuple = some false := rfl
theorem w_ty4 : isTy sub (.int a) .list = some false := rfl
theorem w_ty5 : isTy sub (.tup xs) .int = some false := rfl
theorem w_ty6 : isTy sub (.tup xs) .bool = some false := rfl
theorem w_ty7 : isTy sub (.tup xs) .tuple = some true := rfl
theorem w_ty8 : isTy sub (.tup xs) .list = some false := rfl
theorem w_ty9 : isTy sub (.lst m) .tuple = some false := rfl
theorem w_ty10 : isTy sub (.lst m) .list = some true := rfl
theorem w_ty11 : isTy sub (.lst m) .int = some false := rfl
theorem w_ty12 : isTy sub (.lst m) .bool = some false := rfl
theorem w_ty13 : isTy sub .none .int = some false := rfl
theorem w_ty14 : isTy sub .none .bool = some false := rfl
theorem w_ty15 : isTy sub .none .tuple = some false := rfl
theorem w_ty16 : isTy sub .none .list = some false := rfl
theorem w_ty17 {t : Bool} : isTy sub (.bool t) .int = some true := rfl
theorem w_ty18 {t : Bool} : isTy sub (.bool t) .bool = some true := rfl
theorem w_ty19 {t : Bool} : isTy sub (.bool t) .tuple = some false := rfl
theorem w_ty20 {t : Bool} : isTy sub (.bool t) .list = some false := rfl
theorem w_ty21 {i j : Nat} : isTy sub (.exc i) (.cls j) = some (sub i j) := rfl
end
end Mine
namespace Mine
theorem w_mapc {v : V} {l : List V} : List.map some (v :: l) = some v :: List.map some l := rfl
theorem w_mapn : List.map some ([] : List V) = [] := rfl
theorem w_appc {v : Option V} {l m : Loc} : v :: l ++ m = v :: (l ++ m) := rfl
theorem w_appn {m : Loc} : ([] : Loc) ++ m = m := rfl
theorem w_repc {n : Nat} : List.replicate (n + 1) (none : Option V) = none :: List.replicate n none := rfl
theorem w_repn : List.replicate 0 (none : Option V) = [] := rfl
theorem w_start {a b : Nat} {vs : List V} : startLoc a b vs = List.map some vs ++ List.replicate (b - a) none := rfl
theorem w_lenc {v : V} {l : List V} : (v :: l).length = l.length + 1 := rfl
theorem w_ifT {A B : Prop} : (if true = true then A else B) = A := rfl
theorem w_ifF {A B : Prop} : (if false = true then A else B) = B := rfl
theorem w_ifFF {A B : Prop} : (if false = false then A else B) = A := rfl
theorem w_ifTF {A B : Prop} : (if true = false then A else B) = B := rfl
theorem w_nT : (!true) = false := rfl
theorem w_anyT : [true].any id = true := rfl
theorem w_anyF : [false].any id = false := rfl
theorem w_d22 : decide (((2 : Nat) : Int) = 2) = true := rfl
theorem w_nF : (!false) = true := rfl
end Mine

set_option autoImplicit false
set_option linter.unusedVariables false
namespace Mine
open PySem PyProof.Rows PySem.Calls PySem.W
section
variable {prog : Program} {w : World}
theorem run_lawT {s : Shared} {gc : GC} {G : GV} {DT : List DefT} {P : List Fn} {VT : List (List Str)} {sub : Nat → Nat → Bool} {Ψ : Nat → List V → Hp → (V → Hp → Prop) → Prop} (F : GF G gc DT s.heap) (hlen : gc.fns.length = DT.length) (hchk : chkAll gc DT P VT = true)
    {l : Addr} {vs : List Value} {ns : List Int} (hP1 : P.length ≤ 1000) (hl : s.heap.IsList l vs.toArray) (hI : IntsAre vs ns) (h63 : ns.length ≤ 63) {k n : Nat} {x : Str} {fa : Addr} (hk : gc.fns[k]? = some x) (hfa : G.mg x = some (.ref fa)) (hn : n + 1 ≤ 600) {fd : Fn} (hf : P[k]? = some fd) (hnp : fd.np = 1)
    (hT : ∀ (d : DefT) (vn : List Str) (cd : Value), DT[k]? = some d → STry ⟨prog, w, G, DT, callerA.deeper (envOfC d.name d.scope s.heap.objs.size (G.fa k) cd), sub, topC Ψ (callN sub P n)⟩ ⟨⟨gc, d.scope, vn⟩, envOfC d.name d.scope s.heap.objs.size (G.fa k) cd, s.heap⟩)
    (hw : wpS sub (topC Ψ (callN sub P n)) (fun m => 1 ≤ m) fd.body (startLoc 1 fd.nv [.lst 0]) [ns.map .int] (fun _ _ => V.none = .bool true) (fun v _ => v = .bool true) (fun _ _ => False)) {R : Result → Shared → Prop}
    (hR : ∀ h' tk, KeepsH s.heap h' → R (.ok (.ret (.bool true))) { s with heap := h', toks := tk }) :
    codeAny (model prog w) callerA (.call (.ref fa) ⟨[.ref l], []⟩) R s := by
  obtain ⟨hP, hdefs⟩ := defs_of hchk
  have hroom : Room callerA (n + 1) := callerRoom hn
  have hf' : G.fa k = fa := by
    have := (F.fn k x hk).1
    rw [hfa] at this; injection this with this; injection this with this; exact this.symm
  have HR0 : HR G [l] s.heap [ns.map .int] := by
    refine ⟨rfl, by simp, by simp, fun m a xs e1 e2 => ?_⟩
    cases m with
    | zero =>
      simp at e1 e2; subst e1 e2
      refine ⟨vs, hl, reps_ints hI, ?_, fun h => absurd rfl h⟩
      rw [List.length_map]; exact Nat.le_trans h63 (by decide)
    | succ m => simp at e1
  have hS : ∀ env, SCall prog w G gc DT (callerA.deeper env) (topC Ψ (callN sub P n)) := fun env f x vs H Q hx hq s α vals E T R r => by
    rcases hq with ⟨_, hq⟩ | ⟨h1, _⟩
    · exact (scall_callN (prog := prog) (w := w) (G := G) (sub := sub) (by rw [hP, hlen]) hP1 hdefs n _ hroom.down).wp f x vs H Q hx hq s α vals E T R r
    · have := (List.getElem?_eq_some_iff.mp hx).1
      omega
  have := call_step (f := k) (s := s) (H := [ns.map .int]) (Q := fun v _ => v = V.bool true) (vs := [.lst 0]) hroom hdefs hS hT hk hf (by rw [hnp]; rfl) (by rw [hnp]; exact hw) [l] [.ref l] (fun _ _ => False) F HR0 (.cons (Rep.lst rfl) .nil)
  rw [hf'] at this
  refine codeAny_mono this fun r s' p => ?_
  cases r with
  | error e => exact p.elim
  | ok fl =>
    cases fl with
    | ret v =>
      obtain ⟨h', tk, β, K, d, rfl, kp, _, _, rp, rfl⟩ := p
      cases rp
      exact hR h' tk kp
    | _ => exact p.elim
end
end Mine

set_option autoImplicit false
set_option linter.unusedVariables false
namespace Mine
open PySem PyProof.Rows PySem.Calls

/-- all that is new since h₀, but L -/
noncomputable def newsAll (h₀ : Heap) (L : Addr) (h : Heap) : List (Addr × Obj) := (List.range h.objs.size).filterMap fun b => match h₀.get? b, h.get? b with
  | none, some o => if b = L then none else some (b, o)
  | _, _ => none
theorem newsAll_ok {h₀ h : Heap} {L : Addr} : News h₀ L h (newsAll h₀ L h) := fun p hp => by
  obtain ⟨b, _, e⟩ := List.mem_filterMap.mp hp
  cases e0 : h₀.get? b with
  | some o => rw [e0] at e; cases e
  | none =>
    cases e1 : h.get? b with
    | none => rw [e0, e1] at e; cases e
    | some o =>
      rw [e0, e1] at e
      by_cases hb : b = L
      · simp only [if_pos hb] at e; cases e
      · simp only [if_neg hb] at e; cases e; exact ⟨e1, hb, e0⟩
theorem newsAll_mem {h₀ h : Heap} {L b : Addr} {o : Obj} (e0 : h₀.get? b = none) (e1 : h.get? b = some o) (hb : b ≠ L) : (b, o) ∈ newsAll h₀ L h :=
  List.mem_filterMap.mpr ⟨b, List.mem_range.mpr (Heap.lt_size e1), by rw [e0, e1]; simp only [if_neg hb]⟩
theorem ns_same {h : Heap} {a : Addr} {m m' : Str → Option Value} (x : h.Ns a m) (y : h.Ns a m') : m = m' := by
  obtain ⟨o, es, ep, ho, hd, _, hf⟩ := x
  obtain ⟨o', es', ep', ho', hd', _, hf'⟩ := y
  rw [ho] at ho'; cases ho'
  rw [hd] at hd'; cases hd'
  funext n; rw [← hf n, ← hf' n]

section
variable {X : SX} {f : FC}
theorem HR.turn {W : Nat → Prop} {s : Shared} {α : List Addr} {ρ : Loc} {h' : Heap} {H : Hp} (K : f.hb.get? f.env.locals = none) (F : FrS X.G f W s.heap α ρ) (R : HR X.G α s.heap H) (k : ∀ b o, s.heap.get? b = some o → b ≠ f.env.locals → h'.get? b = some o) : HR X.G α h' H := by
  obtain ⟨m, cm, hn, _⟩ := F.fr
  obtain ⟨oL, es, ep, hoL, hdL, _⟩ := hn
  have kt : KeepsT s.heap h' := fun a items x => by
    obtain ⟨o, ho, hc', n, hd⟩ := x
    refine ⟨o, k a o ho fun ha => ?_, hc', n, hd⟩
    subst ha
    rw [ho] at hoL; cases hoL
    rw [hd] at hdL; cases hdL
  refine ⟨R.len, R.nodup, R.pos, fun n a xs e1 e2 => ?_⟩
  obtain ⟨vs, l, q, z, p⟩ := R.lst n a xs e1 e2
  have ha : a ≠ f.env.locals := fun ha => by
    subst ha
    obtain ⟨o, ho, hc', n', hd⟩ := l
    rw [ho] at hoL; cases hoL
    rw [hd] at hdL; cases hdL
  refine ⟨vs, ?_, q.mono (fun _ _ e => e) kt, z, fun hn => ?_⟩
  · obtain ⟨o, ho, r⟩ := l; exact ⟨o, k _ _ ho ha, r⟩
  · obtain ⟨n', e'⟩ := p hn; exact ⟨n', k _ _ e' ha⟩

/-- a call that catches, shown by the kit's walk: what it hands back is a plain value -/
theorem stry_of (hk : ∀ (k : Nat) (vs : List V) (H : Hp) (Q : V → Hp → Prop), X.Φ (k + 1000) vs H Q (fun _ _ => False) → ∀ (s : Shared) (α : List Addr) (vals : List Value) (E : Value → Shared → Prop) (m : Str → Option Value) (news : List (Addr × Obj)) (Z : Value → Shared → Prop),
      Fr f.hb f.env.locals s.heap m → News f.hb f.env.locals s.heap news → HR X.G α s.heap H → Reps X.G α s.heap vals vs →
      (∀ (v : Value) (d : V) (h' : Heap) (tk : Nat) (news' : List (Addr × Obj)), Fr f.hb f.env.locals h' m → News f.hb f.env.locals h' news' → (∀ q ∈ news, q ∈ news') → (∀ (α' : List Addr) (h : Heap), Rep X.G α' h v d) → Q d H → Z v { s with heap := h', toks := tk }) →
      wpAny (model X.prog X.w) X.A (call (.ref (X.G.fa k)) vals) Z E s) (hL : f.hb.objs.size ≤ f.env.locals) : STry X f := fun k x vs H Q _ hq W s α ρ vals E T F R r => by
  have hd : f.hb.get? f.env.locals = none := get_ge_none hL
  obtain ⟨m, cm, hn, hrest⟩ := F.fr
  refine hk k vs H Q hq s α vals E m (newsAll f.hb f.env.locals s.heap) _ ⟨hn, F.kb, hL⟩ newsAll_ok R r fun v d h' tk news' F' N' sub rv hq' => ?_
  have keep : ∀ b o, s.heap.get? b = some o → b ≠ f.env.locals → h'.get? b = some o := fun b o e hb => by
    cases e0 : f.hb.get? b with
    | some o' =>
      have h1 := F.kb b o' e0
      rw [e] at h1; cases h1
      exact F'.keep b o e0
    | none => exact (N' _ (sub _ (newsAll_mem e0 e hb))).1
  refine ⟨h', tk, [], [], d, rfl, keep, fun m' hm' => ?_, fun b hb => (nomatch hb), ?_, rv _ _, by rw [List.append_nil]; exact hq'⟩
  · rw [← ns_same hn hm']; exact F'.ns
  · rw [List.append_nil, List.append_nil]; exact HR.turn hd F R keep
end
end Mine

set_option autoImplicit false
set_option linter.unusedVariables false
set_option maxRecDepth 100000
namespace Mine
open PySem PySem.W PySem.Calls PyProof.Rows PySem.Builtin PySem.Builtin.ObjectAttr PySem.Builtin.Getset_descriptor

/-- an instance of an own exception class -/
noncomputable def ExcAt (a C : Addr) (h : Heap) : Prop := ∃ o, h.get? a = some o ∧ o.cls = .ref C

section
variable {K : Frag} {prog : Program} {w : World} {A : Around} {E : Value → Shared → Prop} {h : Heap} {g : Array GenState} {d : Drawn} {t : Nat} {os : OsState} {a C : Addr} {o : Obj}
theorem excAt_N {h₀ : Heap} {L : Addr} {news : List (Addr × Obj)} (N : News h₀ L h news) (hm : (a, o) ∈ news) (hc : o.cls = .ref C) : ExcAt a C h := ⟨o, (N _ hm).1, hc⟩
theorem news_cons {h₀ : Heap} {L : Addr} {news : List (Addr × Obj)} {q : Addr × Obj} (N : News h₀ L h news) (hq : h.get? q.1 = some q.2 ∧ q.1 ≠ L ∧ h₀.get? q.1 = none) : News h₀ L h (q :: news) := fun p hp => by
  rcases List.mem_cons.mp hp with rfl | hp
  · exact hq
  · exact N p hp
theorem exc_ty (M : Model) (hx : h.get? a = some o) (hc : o.cls = .ref C) : Looks M h (typeOf (.ref a)) (.ref C) := hc ▸ (Looks.ld hx).andThen .now

theorem class_get_exc {tp : Value} {R : Result → Shared → Prop} (X : K.In h) (hx : h.get? a = some o) (hc : o.cls = .ref C) (hm : mroIn K C (.type "object") = some true)
    (hq : R (.ok (.ret (.ref C))) ⟨h, g, d, t, os⟩) : codeAny (model prog w) A (.call (.builtin "getset_descriptor.__get__") ⟨[.builtin "object.__class__", .ref a, tp], []⟩) R ⟨h, g, d, t, os⟩ := by
  have L0 := exc_ty (model prog w) hx hc
  have L1 := looks_mroIn (M := model prog w) X hm
  refine codeAny_call_builtin KF.slot_gs.plain KF.entry_gs (KF.slot_gs.check _ _ _ _ _ _ _ _ KF.type_class (KF.args_gs _ _ _) ?_)
  unfold Builtin.«getset_descriptor.__get__» descrGet
  rw [dga_obj]
  refine wpAny_bind (wpAny_pure ?_)
  unfold descrGetter descrCheckInstance descrNameAndClass isInstance
  simp only [KF.owner_class]
  repeat lk
  refine ⟨Code.quiet_builtin _ (by decide +kernel), codeAny_builtin KF.entry_class ?_⟩
  unfold Builtin.«object.__class__» shownTypeOf
  repeat lk
  exact hq
end
end Mine
namespace Mine
open PySem PySem.W PySem.Calls PyProof.Rows PySem.Builtin PySem.Builtin.ObjectAttr PySem.Builtin.Getset_descriptor
section
variable {K : Frag} {prog : Program} {w : World} {A : Around} {E : Value → Shared → Prop} {h : Heap} {g : Array GenState} {d : Drawn} {t : Nat} {os : OsState} {a C : Addr} {o : Obj}
theorem check_ga_exc {M : Model} {nameV : Value} {Q : Unit → Shared → Prop} (X : K.In h) (hx : h.get? a = some o) (hc : o.cls = .ref C) (hb : subIn K (.ref C) (.type "BaseException") = some true)
    (hq : Q () ⟨h, g, d, t, os⟩) : wpAny M A (checkBuiltinCall "BaseException.__getattribute__" ⟨[.ref a, nameV], []⟩) Q E ⟨h, g, d, t, os⟩ := by
  have hk : builtinKind "BaseException.__getattribute__" = some .slot := by decide +kernel
  have hsplit : splitId "BaseException.__getattribute__" = some ("BaseException", "__getattribute__") := by decide +kernel
  have L0 := exc_ty M hx hc
  have L1 : Looks M h (isSubtype (.ref C) (.type "BaseException")) true := looks_subIn X hb
  have ha := F.args_bexc_ga (.ref a) nameV
  simp only [checkBuiltinCall, hk, hsplit]
  refine wpAny_bind ?_
  · unfold isInstance
    refine wpAny_bind (L0.at (L1.at ?_))
    repeat (first | wp_step)
    exact hq
theorem class_entry_exc {tk : Tok} {Q : Fin → Shared → Prop} (X : K.In h) (hx : h.get? a = some o) (hc : o.cls = .ref C) (f3 : findIn K (.ref C) "__class__" = some (some (.builtin "object.__class__"))) (hm : mroIn K C (.type "object") = some true)
    (hq : Q (.done (.ret (.ref C))) ⟨h, g, d, t, os⟩) : wpAny (model prog w) A (Builtin.«object.__getattribute__» ⟨[.ref a, .str "__class__" tk], []⟩) Q E ⟨h, g, d, t, os⟩ := by
  have L0 := exc_ty (model prog w) hx hc
  have L1 := looks_findIn (M := model prog w) X f3
  have hT5 : (⟨h, g, d, t, os⟩ : Shared).TypeIs (.builtin "object.__class__") "getset_descriptor" := F.typeOf_object_class
  have f5 := F.typeOf_object_class
  have f6 := F.slot_gs_get.lookup
  have f7 := F.slot_gs_set.lookup
  repeat (any_goals (first | assumption | with_reducible refine L0.at ?_ | with_reducible refine L1.at ?_ | wp_step))
  refine class_get_exc X hx hc hm ?_
  repeat (any_goals (first | assumption | wp_step))
theorem class_by_exc {tk : Tok} {Q : Value → Shared → Prop} (X : K.In h) (hx : h.get? a = some o) (hc : o.cls = .ref C) (hb : subIn K (.ref C) (.type "BaseException") = some true) (f1 : findIn K (.ref C) "__getattribute__" = some (some (.builtin "BaseException.__getattribute__")))
    (f2 : findIn K (.ref C) "__getattr__" = some none) (f3 : findIn K (.ref C) "__class__" = some (some (.builtin "object.__class__"))) (hm : mroIn K C (.type "object") = some true) (hq : Q (.ref C) ⟨h, g, d, t, os⟩) :
    wpAny (model prog w) A (getAttrBy (.ref a) (.str "__class__" tk) false) Q E ⟨h, g, d, t, os⟩ := by
  have L0 := exc_ty (model prog w) hx hc
  have L1 := looks_findIn (M := model prog w) X f1
  have L2 := looks_findIn (M := model prog w) X f2
  have f3' := F.attr_ValueError.ga.bind (.ref a)
  have hx2 : (Value.builtin "BaseException.__getattribute__" == Value.builtin "object.__getattribute__") = false := by decide +kernel
  have hx1 : (onTheHeap (Value.ref C) && Value.builtin "BaseException.__getattribute__" == Value.builtin "object.__getattribute__") = false := by rw [hx2]; rfl
  repeat (any_goals (first | assumption | with_reducible refine L0.at ?_ | with_reducible refine L1.at ?_ | with_reducible refine L2.at ?_ | wp_step))
  refine codeAny_call_builtin F.attr_ValueError.ga.plain F.entry_bexc_ga (check_ga_exc X hx hc hb (class_entry_exc X hx hc f3 hm ?_))
  repeat (any_goals (first | assumption | wp_step))
theorem class_attr_exc {Q : Option Value → Shared → Prop} (X : K.In h) (hx : h.get? a = some o) (hc : o.cls = .ref C) (hb : subIn K (.ref C) (.type "BaseException") = some true) (f1 : findIn K (.ref C) "__getattribute__" = some (some (.builtin "BaseException.__getattribute__")))
    (f2 : findIn K (.ref C) "__getattr__" = some none) (f3 : findIn K (.ref C) "__class__" = some (some (.builtin "object.__class__"))) (hm : mroIn K C (.type "object") = some true) (hq : Q (some (.ref C)) ⟨h, g, d, t + 1, os⟩) :
    wpAny (model prog w) A (getAttr? (.ref a) "__class__") Q E ⟨h, g, d, t, os⟩ := by
  unfold getAttr? getAttrBy?
  repeat (any_goals (first | assumption | with_reducible apply class_by_exc X hx hc hb f1 f2 f3 hm | wp_step))
theorem kitx_exc (hb : subIn K (.ref C) (.type "BaseException") = some true) (f1 : findIn K (.ref C) "__getattribute__" = some (some (.builtin "BaseException.__getattribute__")))
    (f2 : findIn K (.ref C) "__getattr__" = some none) (f3 : findIn K (.ref C) "__class__" = some (some (.builtin "object.__class__"))) (hm : mroIn K C (.type "object") = some true) :
    KitX K (.ref a) (.ref C) (ExcAt a C) where
  ty := fun M h _ p => by obtain ⟨o, hx, hc⟩ := p; exact exc_ty M hx hc
  it := fun _ _ X _ => by
    obtain ⟨cdD, hcl, _⟩ := Option.bind_eq_some_iff.mp hm
    unfold clsIn at hcl
    split at hcl
    · rename_i c' d' cd' sl' ho
      intro A' Q' E' s' k q
      unfold isType loadHead
      exact wpAny_bind (wpAny_loadPart (k _ _ (X _ _ ho)) (wpAny_pure q))
    · cases hcl
  ne := fun h tp dd its n sl X htp => by
    refine Bool.eq_false_iff.mpr fun q => ?_
    have e : C = tp := Value.ref.inj (beq_iff_eq.mp q)
    subst e
    obtain ⟨cdD, hcl, _⟩ := Option.bind_eq_some_iff.mp hm
    unfold clsIn at hcl
    split at hcl
    · rename_i c' d' cd' sl' ho
      have z := (X _ _ ho).symm.trans htp
      cases z
    · cases hcl
  ca := fun {_ _ _ _ _ s} X p k => by
    obtain ⟨h, g, d, t, os⟩ := s
    obtain ⟨o, hx, hc⟩ := p
    exact class_attr_exc X hx hc hb f1 f2 f3 hm k
end
end Mine

set_option autoImplicit false
namespace Mine

/-- the row times (a + b x), c carried in -/
noncomputable def mulG (a b : Int) : Int → List Int → List Int
  | c, [] => [c]
  | c, x :: r => (c + x * a) :: mulG a b (x * b) r
noncomputable def addL (xs ys : List Int) : List Int := List.zipWith (fun x y => x + y) xs ys
noncomputable def smul (c : Int) (xs : List Int) : List Int := xs.map fun x => c * x
noncomputable def mulN (a b : Int) : Nat → List Int → List Int
  | 0, xs => xs
  | n + 1, xs => mulG a b 0 (mulN a b n xs)
/-- the row seen from the stretch, from its high end -/
noncomputable def hs (b e s : Int) : List Int → List Int
  | [] => []
  | c :: r => addL (mulG b e 0 (hs b e s r)) (smul c (mulN s s r.length [1]))
end Mine

set_option autoImplicit false
set_option linter.unusedVariables false
set_option linter.unusedSimpArgs false
set_option maxRecDepth 100000
namespace Mine
open PySem

noncomputable def cellI (ns : List Int) (k : Nat) : Int := ns.getD k 0

section
variable {sub : Nat → Nat → Bool} {P : List Fn} {f n : Nat} {H : Hp} {Q : V → Hp → Prop} {X : Nat → Hp → Prop}

theorem callN_mk {d : Fn} {vs : List V} (e : P[f]? = some d) (hl : vs.length = d.np) (h : wpS sub (callN sub P n) (fun m => H.length ≤ m) d.body (startLoc d.np d.nv vs) H (fun _ H' => Q .none H') Q X) : callN sub P (n + 1) f vs H Q X := ⟨d, e, hl, h⟩

noncomputable def bCell : PS := .seq (.ite (.cmp .lt (.var 1) (.bi .len (.cons (.var 0) .nil))) (.seq (.ret (.idx (.var 0) (.var 1))) .skip) .skip) (.seq (.ret (.cint 0)) .skip)
theorem s_cell (e : P[f]? = some ⟨2, 2, bCell⟩) {m : Nat} {ns : List Int} {k : Int} (hk : 0 ≤ k) (hH : H[m]? = some (ns.map .int)) (hQ : Q (.int (cellI ns k.toNat)) H) : callN sub P (n + 1) f [.lst m, .int k] H Q X := by
  refine callN_mk e rfl ?_
  dsimp only [bCell, wpS, wpE, wpEs, wpAll, wpO, wpI, w_add, w_addl, w_sub, w_mul, w_mull, w_fdiv, w_mod, w_pow, w_lt, w_le, w_gt, w_ge, w_eq, w_ne, w_eqt, w_eql, w_net, w_nel, w_isn, w_ist, w_isi, w_isl, w_abs, w_lent, w_lenl, w_intb, w_list, w_tuple, w_min, w_idxt0, w_idxt1, w_idxu0, w_idxu1, w_idxu2, w_idxl, w_slcl, w_slct, w_tb, w_ti, w_tn, w_tt, w_tl, w_itt, w_itl, w_bindT1, w_bindT2, w_srcl, w_srct, w_cut2, w_cut1, w_cut1', w_cut0, w_ty1, w_ty2, w_ty3, w_ty4, w_ty5, w_ty6, w_ty7, w_ty8, w_ty9, w_ty10, w_ty11, w_ty12, w_ty13, w_ty14, w_ty15, w_ty16, w_ty17, w_ty18, w_ty19, w_ty20, w_ty21, w_mapc, w_mapn, w_appc, w_appn, w_repc, w_repn, w_start, w_lenc, w_ifT, w_ifF, w_ifFF, w_ifTF, w_nT, w_nF, w_anyT, w_anyF, w_d22, ifSome_some, ifLst_lst, ifTup_tup, ifInt_int, lget, lset, lsets, Nat.reduceSub, Nat.reduceAdd, List.length_nil, ↓reduceIte]
  refine ifSome.mk hH ?_
  rw [List.length_map]
  by_cases h : k < ns.length
  · rw [if_pos (decide_eq_true h)]
    have hl : k.toNat < ns.length := (Int.toNat_lt hk).mpr h
    refine ifSome.mk hH (ifSome.mk (v := k.toNat) ?_ (ifSome.mk (v := .int ns[k.toNat]) ?_ ?_))
    · rw [List.length_map, place, if_pos hk, if_pos h]
    · rw [List.getElem?_map, List.getElem?_eq_getElem hl]; rfl
    · rw [cellI, List.getD_eq_getElem?_getD, List.getElem?_eq_getElem hl] at hQ; exact hQ
  · rw [if_neg (by rw [decide_eq_true_eq]; exact h)]
    rw [cellI, List.getD_eq_getElem?_getD, List.getElem?_eq_none ((Int.le_toNat hk).mpr (Int.not_lt.mp h))] at hQ
    exact hQ

noncomputable def lDiv : PS := .seq (.assign 2 (.bin .mod (.var 0) (.var 1))) (.seq (.assign 0 (.var 1)) (.seq (.assign 1 (.var 2)) .skip))
noncomputable def bDiv : PS := .seq (.whl (.cmp .ne (.var 1) (.cint 0)) lDiv) (.seq (.ret (.bi .abs (.cons (.var 0) .nil))) .skip)
noncomputable def natAt (ρ : Loc) (i : Nat) : Nat := match lget ρ i with | some (.int y) => y.natAbs | _ => 0
theorem s_div (e : P[f]? = some ⟨2, 3, bDiv⟩) {a b : Int} (hQ : Q (.int (a.gcd b : Nat)) H) : callN sub P (n + 1) f [.int a, .int b] H Q X := by
  refine callN_mk e rfl ?_
  dsimp only [bDiv, wpS, wpE, wpEs, wpAll, wpO, wpI, w_add, w_addl, w_sub, w_mul, w_mull, w_fdiv, w_mod, w_pow, w_lt, w_le, w_gt, w_ge, w_eq, w_ne, w_eqt, w_eql, w_net, w_nel, w_isn, w_ist, w_isi, w_isl, w_abs, w_lent, w_lenl, w_intb, w_list, w_tuple, w_min, w_idxt0, w_idxt1, w_idxu0, w_idxu1, w_idxu2, w_idxl, w_slcl, w_slct, w_tb, w_ti, w_tn, w_tt, w_tl, w_itt, w_itl, w_bindT1, w_bindT2, w_srcl, w_srct, w_cut2, w_cut1, w_cut1', w_cut0, w_ty1, w_ty2, w_ty3, w_ty4, w_ty5, w_ty6, w_ty7, w_ty8, w_ty9, w_ty10, w_ty11, w_ty12, w_ty13, w_ty14, w_ty15, w_ty16, w_ty17, w_ty18, w_ty19, w_ty20, w_ty21, w_mapc, w_mapn, w_appc, w_appn, w_repc, w_repn, w_start, w_lenc, w_ifT, w_ifF, w_ifFF, w_ifTF, w_nT, w_nF, w_anyT, w_anyF, w_d22, ifSome_some, ifLst_lst, ifTup_tup, ifInt_int, lget, lset, lsets, Nat.reduceSub, Nat.reduceAdd, List.length_nil, ↓reduceIte]
  refine ⟨fun ρ H' => ∃ x y o, ρ = [some (.int x), some (.int y), o] ∧ H' = H ∧ x.gcd y = a.gcd b, fun ρ _ => natAt ρ 1, ⟨a, b, _, rfl, rfl, rfl⟩, ?_⟩
  rintro ρ H' ⟨x, y, o, rfl, rfl, hg⟩
  dsimp only [lDiv, wpS, wpE, wpEs, wpAll, wpO, wpI, w_add, w_addl, w_sub, w_mul, w_mull, w_fdiv, w_mod, w_pow, w_lt, w_le, w_gt, w_ge, w_eq, w_ne, w_eqt, w_eql, w_net, w_nel, w_isn, w_ist, w_isi, w_isl, w_abs, w_lent, w_lenl, w_intb, w_list, w_tuple, w_min, w_idxt0, w_idxt1, w_idxu0, w_idxu1, w_idxu2, w_idxl, w_slcl, w_slct, w_tb, w_ti, w_tn, w_tt, w_tl, w_itt, w_itl, w_bindT1, w_bindT2, w_srcl, w_srct, w_cut2, w_cut1, w_cut1', w_cut0, w_ty1, w_ty2, w_ty3, w_ty4, w_ty5, w_ty6, w_ty7, w_ty8, w_ty9, w_ty10, w_ty11, w_ty12, w_ty13, w_ty14, w_ty15, w_ty16, w_ty17, w_ty18, w_ty19, w_ty20, w_ty21, w_mapc, w_mapn, w_appc, w_appn, w_repc, w_repn, w_start, w_lenc, w_ifT, w_ifF, w_ifFF, w_ifTF, w_nT, w_nF, w_anyT, w_anyF, w_d22, ifSome_some, ifLst_lst, ifTup_tup, ifInt_int, lget, lset, lsets, Nat.reduceSub, Nat.reduceAdd, List.length_nil, ↓reduceIte]
  by_cases hy : y = 0
  · subst hy
    have : (if x < 0 then -x else x) = ((a.gcd b : Nat) : Int) := by
      rw [← hg, Int.gcd_zero_right]
      split <;> omega
    show Q (.int (if x < 0 then -x else x)) _
    rw [this]; exact hQ
  · rw [decide_eq_false hy]
    exact ⟨hy, ⟨y, x.fmod y, _, rfl, rfl, by rw [gcd_fmod]; exact hg⟩, fmod_natAbs_lt hy⟩

noncomputable def bWhole : PS := .seq (.ret (.and (.cons (.isi (.var 0) [.int]) (.cons (.nt (.isi (.var 0) [.bool])) .nil)))) .skip
theorem s_whole (e : P[f]? = some ⟨1, 1, bWhole⟩) {x : Int} (hQ : Q (.bool true) H) : callN sub P (n + 1) f [.int x] H Q X :=
  callN_mk e rfl hQ

end
end Mine

set_option autoImplicit false
set_option linter.unusedVariables false
set_option linter.unusedSimpArgs false
set_option maxRecDepth 100000
namespace Mine
open PySem

/-! bounds -/
noncomputable def AllSm (k : Nat) (xs : List Int) : Prop := ∀ x ∈ xs, Sm k x
theorem AllSm.mono {k l : Nat} {xs : List Int} (h : AllSm k xs) (hl : k ≤ l) : AllSm l xs := fun x hx => (h x hx).mono hl
theorem AllSm.cons {k : Nat} {x : Int} {xs : List Int} (h : Sm k x) (h' : AllSm k xs) : AllSm k (x :: xs) := fun y hy => by
  cases hy with
  | head => exact h
  | tail _ hy => exact h' y hy
theorem AllSm.hd {k : Nat} {x : Int} {xs : List Int} (h : AllSm k (x :: xs)) : Sm k x := h x List.mem_cons_self
theorem AllSm.tl {k : Nat} {x : Int} {xs : List Int} (h : AllSm k (x :: xs)) : AllSm k xs := fun y hy => h y (List.mem_cons_of_mem _ hy)
theorem AllSm.nil {k : Nat} : AllSm k [] := fun _ h => nomatch h
theorem AllSm.mulG {k l : Nat} {a b : Int} (ha : Sm l a) (hb : Sm l b) : ∀ {xs : List Int} {c : Int}, AllSm k xs → Sm (k + l) c → AllSm (k + l + 1) (Mine.mulG a b c xs)
  | [], c, _, hc => .cons (hc.mono (Nat.le_succ _)) .nil
  | x :: r, c, h, hc => .cons (hc.add (h.hd.mul ha)) (AllSm.mulG ha hb h.tl (h.hd.mul hb))
theorem Sm.zero {k : Nat} : Sm k 0 := Nat.two_pow_pos k
theorem AllSm.mulG0 {k l : Nat} {a b : Int} (ha : Sm l a) (hb : Sm l b) {xs : List Int} (h : AllSm k xs) : AllSm (k + l + 1) (Mine.mulG a b 0 xs) := h.mulG ha hb .zero
theorem AllSm.mulN {k l : Nat} {a b : Int} (ha : Sm l a) (hb : Sm l b) {xs : List Int} (h : AllSm k xs) : ∀ {n : Nat}, AllSm (k + n * (l + 1)) (Mine.mulN a b n xs)
  | 0 => h.mono (Nat.le_add_right _ _)
  | n + 1 => ((AllSm.mulN ha hb h (n := n)).mulG0 ha hb).mono (by rw [Nat.succ_mul]; omega)
theorem AllSm.addL {k : Nat} : ∀ {xs ys : List Int}, AllSm k xs → AllSm k ys → AllSm (k + 1) (Mine.addL xs ys)
  | [], _, _, _ => fun _ h => nomatch h
  | _ :: _, [], _, _ => fun _ h => nomatch h
  | _ :: _, _ :: _, h1, h2 => .cons (h1.hd.add h2.hd) (AllSm.addL h1.tl h2.tl)
theorem AllSm.smul {k l : Nat} {c : Int} {xs : List Int} (hc : Sm l c) (h : AllSm k xs) : AllSm (l + k) (Mine.smul c xs) := fun x hx => by
  obtain ⟨y, hy, rfl⟩ := List.mem_map.mp hx
  exact hc.mul (h y hy)
theorem Sm.one {k : Nat} : Sm (k + 1) 1 := Nat.lt_of_lt_of_le (show (1 : Int).natAbs < 2 ^ 1 by decide) (Nat.pow_le_pow_right (by decide) (Nat.le_add_left 1 k))
theorem AllSm.pow1 {l : Nat} {s : Int} (hs : Sm l s) {n : Nat} : AllSm (1 + n * (l + 1)) (Mine.mulN s s n [1]) := AllSm.mulN hs hs (.cons Sm.one .nil)
theorem AllSm.hs {k l : Nat} {b e s : Int} (hb : Sm l b) (he : Sm l e) (hs : Sm l s) : ∀ {r : List Int}, AllSm k r → AllSm (k + 2 + r.length * (l + 2)) (Mine.hs b e s r)
  | [], _ => .nil
  | c :: r, h => by
    have h1 := (AllSm.hs hb he hs h.tl).mulG0 hb he
    have h2 := AllSm.smul h.hd (AllSm.pow1 hs (n := r.length))
    have hm : r.length * (l + 1) ≤ r.length * (l + 2) := Nat.mul_le_mul_left _ (Nat.le_succ _)
    refine AllSm.mono (AllSm.addL h1 (h2.mono ?_)) ?_
    · omega
    · rw [List.length_cons, Nat.succ_mul]; omega

section
variable {sub : Nat → Nat → Bool} {P : List Fn} {f n : Nat} {H : Hp} {Q : V → Hp → Prop} {X : Nat → Hp → Prop}

end
end Mine

set_option autoImplicit false
set_option linter.unusedVariables false
set_option linter.unusedSimpArgs false
set_option maxRecDepth 100000
namespace Mine
open PySem
section
variable {sub : Nat → Nat → Bool} {P : List Fn} {f n mu : Nat} {H : Hp} {Q : V → Hp → Prop} {X : Nat → Hp → Prop}
noncomputable def lo (p1 q1 : Int) : V := .tup [.int p1, .int q1]
end
end Mine

set_option autoImplicit false
set_option linter.unusedVariables false
set_option linter.unusedSimpArgs false
set_option maxRecDepth 100000
namespace Mine
open PySem
section
variable {sub : Nat → Nat → Bool} {P : List Fn} {f n mu : Nat} {H : Hp} {Q : V → Hp → Prop} {X : Nat → Hp → Prop}
end
end Mine

set_option autoImplicit false
set_option linter.unusedVariables false
set_option linter.unusedSimpArgs false
set_option maxRecDepth 100000
namespace Mine
open PySem
theorem DivOk.sm {b : Int} (h : b ≠ 0) (hb : Sm 64 b) : DivOk b := ⟨h, hb.mono (l := 8999) (by decide)⟩
theorem fmod_sm {c d : Int} {k : Nat} (hd : 0 < d) (hk : d.natAbs < 2 ^ k) : Sm k (c.fmod d) := by
  have h := fmod_natAbs_lt (a := c) (Int.ne_of_gt hd)
  exact Nat.lt_trans h hk
theorem fmod_sub_sm {c d t : Int} {k : Nat} (hd : 0 < d) (ht : 0 ≤ t) (hk : d.natAbs + t.natAbs < 2 ^ k) : Sm k (c.fmod d - t) := by
  have h1 := Int.fmod_nonneg_of_pos c hd
  have h2 := Int.fmod_lt_of_pos c hd
  unfold Sm; omega
section
variable {sub : Nat → Nat → Bool} {P : List Fn} {f n ce pa dv : Nat} {H : Hp} {Q : V → Hp → Prop} {X : Nat → Hp → Prop}
/-- the lowest form of a by b -/
structure Low (k : Nat) (p q : Int) : Prop where
  top : Sm k p
  bot : Sm k q
  pos : 0 < q
  one : p.gcd q = 1
theorem low_of {k : Nat} {a b p q : Int} (ha : Sm k a) (hb : Sm k b) (h0 : 0 < b) (e1 : p * (a.gcd b : Nat) = a) (e2 : q * (a.gcd b : Nat) = b) : Low k p q := by
  have hg : 0 < a.gcd b := Int.gcd_pos_of_ne_zero_right a (Int.ne_of_gt h0)
  have hg' : (0 : Int) < (a.gcd b : Nat) := Int.natCast_pos.mpr hg
  refine ⟨?_, ?_, ?_, ?_⟩
  · refine Nat.lt_of_le_of_lt ?_ ha
    rw [show a.natAbs = (p * (a.gcd b : Nat)).natAbs by rw [e1], Int.natAbs_mul, Int.natAbs_natCast]; exact Nat.le_mul_of_pos_right _ hg
  · refine Nat.lt_of_le_of_lt ?_ hb
    rw [show b.natAbs = (q * (a.gcd b : Nat)).natAbs by rw [e2], Int.natAbs_mul, Int.natAbs_natCast]; exact Nat.le_mul_of_pos_right _ hg
  · exact Int.pos_of_mul_pos_left (by rw [e2]; exact h0) hg'
  · have h : p.gcd q * a.gcd b = 1 * a.gcd b := by
      have := Int.gcd_mul_right p (a.gcd b : Nat) q
      rw [e1, e2, Int.natAbs_natCast] at this
      rw [← this, Nat.one_mul]
    exact Nat.eq_of_mul_eq_mul_right hg h
end
end Mine

set_option autoImplicit false
set_option maxRecDepth 100000
namespace Mine
namespace L01
open PySem
/- 0: divisor(one, other) rank 1; vars 0=one, 1=other, 2=rest -/
noncomputable def t_divisor_1 : PS := (.seq (.ret (.var 0))
 .skip)
noncomputable def c_divisor_1 : PE := (.cmp .gt (.var 1) (.cint 0))
noncomputable def l_divisor_1 : PS := (.seq (.assign 2 (.bin .mod (.var 0) (.var 1)))
 (.seq (.assign 0 (.var 1))
 (.seq (.assign 1 (.var 2))
 .skip)))
noncomputable def b_divisor : PS := (.seq (.assign 0 (.bi .abs (.cons (.var 0) .nil)))
 (.seq (.assign 1 (.bi .abs (.cons (.var 1) .nil)))
 (.seq (.whl c_divisor_1 l_divisor_1)
 t_divisor_1)))
noncomputable def v_divisor : List Str := ["one", "other", "rest"]
/- 1: part(top, bottom) rank 2; vars 0=top, 1=bottom, 2=many -/
noncomputable def t_part_1 : PS := (.seq (.ret (.tup (.cons (.bin .fdiv (.var 0) (.var 2)) (.cons (.bin .fdiv (.var 1) (.var 2)) .nil))))
 .skip)
noncomputable def t_part_2 : PS := (.seq (.assign 2 (.call 0 (.cons (.var 0) (.cons (.var 1) .nil))))
 (.seq (.ite (.cmp .lt (.var 1) (.cint 0)) (.seq (.assign 2 (.neg (.var 2)))
 .skip) .skip)
 t_part_1))
noncomputable def b_part : PS := (.seq (.ite (.cmp .eq (.var 1) (.cint 0)) (.seq (.raise 1)
 .skip) .skip)
 t_part_2)
noncomputable def v_part : List Str := ["top", "bottom", "many"]
/- 2: below(one, other) rank 1; vars 0=one, 1=other -/
noncomputable def b_below : PS := (.seq (.ret (.cmp .lt (.bin .mul (.idx (.var 0) (.cint 0)) (.idx (.var 1) (.cint 1))) (.bin .mul (.idx (.var 1) (.cint 0)) (.idx (.var 0) (.cint 1)))))
 .skip)
noncomputable def v_below : List Str := ["one", "other"]
/- 3: part_sum(one, other) rank 3; vars 0=one, 1=other -/
noncomputable def b_part_sum : PS := (.seq (.ret (.call 1 (.cons (.bin .add (.bin .mul (.idx (.var 0) (.cint 0)) (.idx (.var 1) (.cint 1))) (.bin .mul (.idx (.var 1) (.cint 0)) (.idx (.var 0) (.cint 1)))) (.cons (.bin .mul (.idx (.var 0) (.cint 1)) (.idx (.var 1) (.cint 1))) .nil))))
 .skip)
noncomputable def v_part_sum : List Str := ["one", "other"]
/- 4: part_product(one, other) rank 3; vars 0=one, 1=other -/
noncomputable def b_part_product : PS := (.seq (.ret (.call 1 (.cons (.bin .mul (.idx (.var 0) (.cint 0)) (.idx (.var 1) (.cint 0))) (.cons (.bin .mul (.idx (.var 0) (.cint 1)) (.idx (.var 1) (.cint 1))) .nil))))
 .skip)
noncomputable def v_part_product : List Str := ["one", "other"]
/- 5: _law_whole(_law_found) rank 1; vars 0=_law_found -/
noncomputable def b_law_whole : PS := (.seq (.ret (.and (.cons (.isi (.var 0) [.int]) (.cons (.nt (.isi (.var 0) [.bool])) .nil))))
 .skip)
noncomputable def v_law_whole : List Str := ["_law_found"]
/- 6: _law_cell_at(_law_script, _law_k) rank 1; vars 0=_law_script, 1=_law_k -/
noncomputable def t_law_cell_at_1 : PS := (.seq (.ret (.cint 0))
 .skip)
noncomputable def b_law_cell_at : PS := (.seq (.ite (.cmp .lt (.var 1) (.bi .len (.cons (.var 0) .nil))) (.seq (.ret (.idx (.var 0) (.var 1)))
 .skip) .skip)
 t_law_cell_at_1)
noncomputable def v_law_cell_at : List Str := ["_law_script", "_law_k"]
/- 7: _law_divisor(_law_one, _law_other) rank 1; vars 0=_law_one, 1=_law_other, 2=_law_over -/
noncomputable def t_law_divisor_1 : PS := (.seq (.ret (.bi .abs (.cons (.var 0) .nil)))
 .skip)
noncomputable def c_law_divisor_1 : PE := (.cmp .ne (.var 1) (.cint 0))
noncomputable def l_law_divisor_1 : PS := (.seq (.assign 2 (.bin .mod (.var 0) (.var 1)))
 (.seq (.assign 0 (.var 1))
 (.seq (.assign 1 (.var 2))
 .skip)))
noncomputable def b_law_divisor : PS := (.seq (.whl c_law_divisor_1 l_law_divisor_1)
 t_law_divisor_1)
noncomputable def v_law_divisor : List Str := ["_law_one", "_law_other", "_law_over"]
/- 8: _law_number(_law_script, _law_k) rank 2; vars 0=_law_script, 1=_law_k, 2=_law_cell, 3=_law_way -/
noncomputable def t_law_number_1 : PS := (.seq (.ret (.bin .sub (.bin .mod (.var 2) (.cint 61)) (.cint 30)))
 .skip)
noncomputable def t_law_number_2 : PS := (.seq (.ite (.cmp .eq (.var 3) (.cint 2)) (.seq (.ret (.idx (.lst (.cons (.bin .mod (.bin .fdiv (.var 2) (.cint 2)) (.bin .pow (.cint 10) (.cint 30))) (.cons (.bin .sub (.neg (.cint 1)) (.bin .mod (.bin .fdiv (.var 2) (.cint 2)) (.bin .pow (.cint 10) (.cint 30)))) .nil))) (.bin .mod (.var 2) (.cint 2))))
 .skip) .skip)
 t_law_number_1)
noncomputable def b_law_number : PS := (.seq (.assign 2 (.call 6 (.cons (.var 0) (.cons (.var 1) .nil))))
 (.seq (.assign 3 (.bin .mod (.call 6 (.cons (.var 0) (.cons (.cint 0) .nil))) (.cint 3)))
 (.seq (.ite (.cmp .eq (.var 3) (.cint 1)) (.seq (.ret (.bin .mul (.bin .sub (.bin .mod (.var 2) (.cint 61)) (.cint 30)) (.bin .add (.cint 2) (.bin .mod (.call 6 (.cons (.var 0) (.cons (.cint 3) .nil))) (.cint 39)))))
 .skip) .skip)
 t_law_number_2)))
noncomputable def v_law_number : List Str := ["_law_script", "_law_k", "_law_cell", "_law_way"]
/- 9: _law_refused(_law_top) rank 3; vars 0=_law_top, 1=e -/
noncomputable def b_law_refused : PS := .opaq
noncomputable def v_law_refused : List Str := ["_law_top", "e"]
/- 10: _law_part(_law_top, _law_bottom) rank 2; vars 0=_law_top, 1=_law_bottom, 2=_law_by -/
noncomputable def b_law_part : PS := (.seq (.assign 2 (.call 7 (.cons (.var 0) (.cons (.var 1) .nil))))
 (.seq (.ret (.tup (.cons (.bin .fdiv (.var 0) (.var 2)) (.cons (.bin .fdiv (.var 1) (.var 2)) .nil))))
 .skip))
noncomputable def v_law_part : List Str := ["_law_top", "_law_bottom", "_law_by"]
/- 11: _law_alike(_law_found, _law_due) rank 2; vars 0=_law_found, 1=_law_due -/
noncomputable def t_law_alike_1 : PS := (.seq (.ret (.and (.cons (.call 5 (.cons (.idx (.var 0) (.cint 0)) .nil)) (.cons (.call 5 (.cons (.idx (.var 0) (.cint 1)) .nil)) (.cons (.cmp .eq (.var 0) (.var 1)) .nil)))))
 .skip)
noncomputable def b_law_alike : PS := (.seq (.ite (.or (.cons (.nt (.isi (.var 0) [.tuple])) (.cons (.cmp .ne (.bi .len (.cons (.var 0) .nil)) (.cint 2)) .nil))) (.seq (.ret (.cbool false))
 .skip) .skip)
 t_law_alike_1)
noncomputable def v_law_alike : List Str := ["_law_found", "_law_due"]
/- 12: _law_met(_law_one, _law_other) rank 4; vars 0=_law_one, 1=_law_other, 2=_law_found, 3=_law_due -/
noncomputable def t_law_met_1 : PS := (.seq (.ret (.call 11 (.cons (.call 4 (.cons (.var 0) (.cons (.var 1) .nil))) (.cons (.call 10 (.cons (.bin .mul (.idx (.var 0) (.cint 0)) (.idx (.var 1) (.cint 0))) (.cons (.bin .mul (.idx (.var 0) (.cint 1)) (.idx (.var 1) (.cint 1))) .nil))) .nil))))
 .skip)
noncomputable def t_law_met_2 : PS := (.seq (.assign 3 (.call 10 (.cons (.bin .add (.bin .mul (.idx (.var 0) (.cint 0)) (.idx (.var 1) (.cint 1))) (.bin .mul (.idx (.var 1) (.cint 0)) (.idx (.var 0) (.cint 1)))) (.cons (.bin .mul (.idx (.var 0) (.cint 1)) (.idx (.var 1) (.cint 1))) .nil))))
 (.seq (.ite (.nt (.call 11 (.cons (.call 3 (.cons (.var 0) (.cons (.var 1) .nil))) (.cons (.var 3) .nil)))) (.seq (.ret (.cbool false))
 .skip) .skip)
 t_law_met_1))
noncomputable def b_law_met : PS := (.seq (.assign 2 (.call 2 (.cons (.var 0) (.cons (.var 1) .nil))))
 (.seq (.ite (.or (.cons (.nt (.isi (.var 2) [.bool])) (.cons (.cmp .ne (.var 2) (.cmp .lt (.bin .mul (.idx (.var 0) (.cint 0)) (.idx (.var 1) (.cint 1))) (.bin .mul (.idx (.var 1) (.cint 0)) (.idx (.var 0) (.cint 1))))) .nil))) (.seq (.ret (.cbool false))
 .skip) .skip)
 t_law_met_2))
noncomputable def v_law_met : List Str := ["_law_one", "_law_other", "_law_found", "_law_due"]
/- 13: law(_law_script) rank 5; vars 0=_law_script, 1=_law_top, 2=_law_bottom, 3=_law_found, 4=_law_other -/
noncomputable def t_law_1 : PS := (.seq (.ret (.call 12 (.cons (.var 3) (.cons (.var 4) .nil))))
 .skip)
noncomputable def t_law_2 : PS := (.seq (.assign 4 (.var 3))
 (.seq (.ite (.cmp .ne (.bin .mod (.call 6 (.cons (.var 0) (.cons (.cint 5) .nil))) (.cint 4)) (.cint 1)) (.seq (.assign 4 (.call 10 (.cons (.call 8 (.cons (.var 0) (.cons (.cint 5) .nil))) (.cons (.bin .add (.cint 1) (.bin .mod (.call 6 (.cons (.var 0) (.cons (.cint 6) .nil))) (.bin .pow (.cint 10) (.cint 30)))) .nil))))
 .skip) .skip)
 t_law_1))
noncomputable def t_law_3 : PS := (.seq (.ite (.or (.cons (.cmp .lt (.idx (.var 3) (.cint 1)) (.cint 1)) (.cons (.cmp .ne (.bin .mul (.idx (.var 3) (.cint 0)) (.var 2)) (.bin .mul (.var 1) (.idx (.var 3) (.cint 1)))) (.cons (.cmp .ne (.call 7 (.cons (.idx (.var 3) (.cint 0)) (.cons (.idx (.var 3) (.cint 1)) .nil))) (.cint 1)) .nil)))) (.seq (.ret (.cbool false))
 .skip) .skip)
 t_law_2)
noncomputable def t_law_4 : PS := (.seq (.assign 3 (.call 1 (.cons (.var 1) (.cons (.var 2) .nil))))
 (.seq (.ite (.or (.cons (.nt (.isi (.var 3) [.tuple])) (.cons (.cmp .ne (.bi .len (.cons (.var 3) .nil)) (.cint 2)) (.cons (.nt (.call 5 (.cons (.idx (.var 3) (.cint 0)) .nil))) (.cons (.nt (.call 5 (.cons (.idx (.var 3) (.cint 1)) .nil))) .nil))))) (.seq (.ret (.cbool false))
 .skip) .skip)
 t_law_3))
noncomputable def b_law : PS := (.seq (.assign 1 (.call 8 (.cons (.var 0) (.cons (.cint 1) .nil))))
 (.seq (.assign 2 (.call 8 (.cons (.var 0) (.cons (.cint 2) .nil))))
 (.seq (.ite (.or (.cons (.cmp .eq (.bin .mod (.call 6 (.cons (.var 0) (.cons (.cint 4) .nil))) (.cint 8)) (.cint 1)) (.cons (.cmp .eq (.var 2) (.cint 0)) .nil))) (.seq (.rett 9 (.cons (.var 1) .nil))
 .skip) .skip)
 t_law_4)))
noncomputable def v_law : List Str := ["_law_script", "_law_top", "_law_bottom", "_law_found", "_law_other"]
noncomputable def fnNames : List Str := ["divisor", "part", "below", "part_sum", "part_product", "_law_whole", "_law_cell_at", "_law_divisor", "_law_number", "_law_refused", "_law_part", "_law_alike", "_law_met", "law"]
noncomputable def fnTab : List Fn := [⟨2, 3, b_divisor⟩, ⟨2, 3, b_part⟩, ⟨2, 2, b_below⟩, ⟨2, 2, b_part_sum⟩, ⟨2, 2, b_part_product⟩, ⟨1, 1, b_law_whole⟩, ⟨2, 2, b_law_cell_at⟩, ⟨2, 3, b_law_divisor⟩, ⟨2, 4, b_law_number⟩, ⟨1, 2, b_law_refused⟩, ⟨2, 3, b_law_part⟩, ⟨2, 2, b_law_alike⟩, ⟨2, 4, b_law_met⟩, ⟨1, 5, b_law⟩]
noncomputable def varTab : List (List Str) := [v_divisor, v_part, v_below, v_part_sum, v_part_product, v_law_whole, v_law_cell_at, v_law_divisor, v_law_number, v_law_refused, v_law_part, v_law_alike, v_law_met, v_law]
end L01
end Mine

set_option autoImplicit false
set_option linter.unusedVariables false
set_option linter.unusedSimpArgs false
set_option maxRecDepth 100000
namespace Mine
open PySem
theorem eqWp_pair {H : Hp} {a b c d : Int} {Q : Bool → Prop} (h : Q (decide (a = c ∧ b = d))) : eqWp (.tup [.int a, .int b]) (.tup [.int c, .int d]) H Q := by
  refine ⟨_, _, rfl, rfl, ?_⟩
  have e : PyData.eqv (.tuple [.int a, .int b]) (.tuple [.int c, .int d]) = decide (a = c ∧ b = d) := by
    rw [PyData.eqv]
    have := eqvAll_ints [a, b] [c, d]
    rw [List.map_cons, List.map_cons, List.map_nil] at this
    rw [show PyData.eqvAll [.int a, .int b] [.int c, .int d] = decide ([a, b] = [c, d]) from this]
    simp
  show Q (PyData.eqv (.tuple [.int a, .int b]) (.tuple [.int c, .int d]))
  rw [e]; exact h
namespace L01
noncomputable def nosub : Nat → Nat → Bool := fun _ _ => false
section
variable {n : Nat} {H : Hp} {Q : V → Hp → Prop} {X : Nat → Hp → Prop}
theorem s_pdiv {a b : Int} (hQ : Q (.int (a.gcd b : Nat)) H) : callN nosub fnTab (n + 1) 0 [.int a, .int b] H Q X := by
  refine callN_mk rfl rfl ?_
  dsimp only [b_divisor, wpS, wpE, wpEs, wpAll, wpO, wpI, w_add, w_addl, w_sub, w_mul, w_mull, w_fdiv, w_mod, w_pow, w_lt, w_le, w_gt, w_ge, w_eq, w_ne, w_eqt, w_eql, w_net, w_nel, w_isn, w_ist, w_isi, w_isl, w_abs, w_lent, w_lenl, w_intb, w_list, w_tuple, w_min, w_idxt0, w_idxt1, w_idxu0, w_idxu1, w_idxu2, w_idxl, w_slcl, w_slct, w_tb, w_ti, w_tn, w_tt, w_tl, w_itt, w_itl, w_bindT1, w_bindT2, w_srcl, w_srct, w_cut2, w_cut1, w_cut1', w_cut0, w_ty1, w_ty2, w_ty3, w_ty4, w_ty5, w_ty6, w_ty7, w_ty8, w_ty9, w_ty10, w_ty11, w_ty12, w_ty13, w_ty14, w_ty15, w_ty16, w_ty17, w_ty18, w_ty19, w_ty20, w_ty21, w_mapc, w_mapn, w_appc, w_appn, w_repc, w_repn, w_start, w_lenc, w_ifT, w_ifF, w_ifFF, w_ifTF, w_nT, w_nF, w_anyT, w_anyF, w_d22, ifSome_some, ifLst_lst, ifTup_tup, ifInt_int, lget, lset, lsets, Nat.reduceSub, Nat.reduceAdd, List.length_nil, ↓reduceIte]
  have ha : ∀ x : Int, (if x < 0 then -x else x) = (x.natAbs : Int) := fun x => by split <;> omega
  rw [ha, ha]
  refine ⟨fun ρ H' => ∃ x y : Nat, ∃ o, ρ = [some (.int x), some (.int y), o] ∧ H' = H ∧ x.gcd y = a.gcd b, fun ρ _ => natAt ρ 1, ⟨a.natAbs, b.natAbs, _, rfl, rfl, rfl⟩, ?_⟩
  rintro ρ H' ⟨x, y, o, rfl, rfl, hg⟩
  dsimp only [c_divisor_1, l_divisor_1, t_divisor_1, wpS, wpE, wpEs, wpAll, wpO, wpI, w_add, w_addl, w_sub, w_mul, w_mull, w_fdiv, w_mod, w_pow, w_lt, w_le, w_gt, w_ge, w_eq, w_ne, w_eqt, w_eql, w_net, w_nel, w_isn, w_ist, w_isi, w_isl, w_abs, w_lent, w_lenl, w_intb, w_list, w_tuple, w_min, w_idxt0, w_idxt1, w_idxu0, w_idxu1, w_idxu2, w_idxl, w_slcl, w_slct, w_tb, w_ti, w_tn, w_tt, w_tl, w_itt, w_itl, w_bindT1, w_bindT2, w_srcl, w_srct, w_cut2, w_cut1, w_cut1', w_cut0, w_ty1, w_ty2, w_ty3, w_ty4, w_ty5, w_ty6, w_ty7, w_ty8, w_ty9, w_ty10, w_ty11, w_ty12, w_ty13, w_ty14, w_ty15, w_ty16, w_ty17, w_ty18, w_ty19, w_ty20, w_ty21, w_mapc, w_mapn, w_appc, w_appn, w_repc, w_repn, w_start, w_lenc, w_ifT, w_ifF, w_ifFF, w_ifTF, w_nT, w_nF, w_anyT, w_anyF, w_d22, ifSome_some, ifLst_lst, ifTup_tup, ifInt_int, lget, lset, lsets, Nat.reduceSub, Nat.reduceAdd, List.length_nil, ↓reduceIte]
  by_cases hy : y = 0
  · subst hy
    rw [Nat.gcd_zero_right] at hg
    subst hg
    exact hQ
  · have h0 : (0 : Int) < (y : Int) := by omega
    rw [decide_eq_true h0]
    refine ⟨by omega, ⟨y, x % y, some (.int ((x : Int).fmod (y : Int))), ?_, rfl, ?_⟩, ?_⟩
    · rw [show ((x % y : Nat) : Int) = (x : Int).fmod (y : Int) by rw [Int.fmod_eq_emod_of_nonneg _ (by omega)]; rfl]
    · rw [← hg, Nat.gcd_comm x y, Nat.gcd_rec y x, Nat.gcd_comm]
    · show ((x : Int).fmod (y : Int)).natAbs < (y : Int).natAbs
      exact fmod_natAbs_lt (by omega)
theorem gcd_ok {a b : Int} (hb : b ≠ 0) (hs : Sm 1000 b) : DivOk ((a.gcd b : Nat) : Int) ∧ DivOk (-((a.gcd b : Nat) : Int)) := by
  have h0 : 0 < a.gcd b := Int.gcd_pos_of_ne_zero_right a hb
  have hle : a.gcd b ≤ b.natAbs := Nat.le_of_dvd (Int.natAbs_pos.mpr hb) (Int.natAbs_dvd_natAbs.mpr (Int.gcd_dvd_right a b))
  have hl : a.gcd b < 2 ^ 8999 := Nat.lt_of_le_of_lt hle (hs.mono (by decide))
  exact ⟨⟨by omega, by rw [Int.natAbs_natCast]; exact hl⟩, ⟨by omega, by rw [Int.natAbs_neg, Int.natAbs_natCast]; exact hl⟩⟩
theorem s_ppart {a b : Int} (hb : b ≠ 0) (hs : Sm 1000 b) (hQ : ∀ g : Int, g = (if b < 0 then -((a.gcd b : Nat) : Int) else ((a.gcd b : Nat) : Int)) → Q (.tup [.int (a.fdiv g), .int (b.fdiv g)]) H) : callN nosub fnTab (n + 2) 1 [.int a, .int b] H Q X := by
  refine callN_mk rfl rfl ?_
  dsimp only [b_part, wpS, wpE, wpEs, wpAll, wpO, wpI, w_add, w_addl, w_sub, w_mul, w_mull, w_fdiv, w_mod, w_pow, w_lt, w_le, w_gt, w_ge, w_eq, w_ne, w_eqt, w_eql, w_net, w_nel, w_isn, w_ist, w_isi, w_isl, w_abs, w_lent, w_lenl, w_intb, w_list, w_tuple, w_min, w_idxt0, w_idxt1, w_idxu0, w_idxu1, w_idxu2, w_idxl, w_slcl, w_slct, w_tb, w_ti, w_tn, w_tt, w_tl, w_itt, w_itl, w_bindT1, w_bindT2, w_srcl, w_srct, w_cut2, w_cut1, w_cut1', w_cut0, w_ty1, w_ty2, w_ty3, w_ty4, w_ty5, w_ty6, w_ty7, w_ty8, w_ty9, w_ty10, w_ty11, w_ty12, w_ty13, w_ty14, w_ty15, w_ty16, w_ty17, w_ty18, w_ty19, w_ty20, w_ty21, w_mapc, w_mapn, w_appc, w_appn, w_repc, w_repn, w_start, w_lenc, w_ifT, w_ifF, w_ifFF, w_ifTF, w_nT, w_nF, w_anyT, w_anyF, w_d22, ifSome_some, ifLst_lst, ifTup_tup, ifInt_int, lget, lset, lsets, Nat.reduceSub, Nat.reduceAdd, List.length_nil, ↓reduceIte]
  rw [decide_eq_false hb]
  dsimp only [t_part_2, wpS, wpE, wpEs, wpAll, wpO, wpI, w_add, w_addl, w_sub, w_mul, w_mull, w_fdiv, w_mod, w_pow, w_lt, w_le, w_gt, w_ge, w_eq, w_ne, w_eqt, w_eql, w_net, w_nel, w_isn, w_ist, w_isi, w_isl, w_abs, w_lent, w_lenl, w_intb, w_list, w_tuple, w_min, w_idxt0, w_idxt1, w_idxu0, w_idxu1, w_idxu2, w_idxl, w_slcl, w_slct, w_tb, w_ti, w_tn, w_tt, w_tl, w_itt, w_itl, w_bindT1, w_bindT2, w_srcl, w_srct, w_cut2, w_cut1, w_cut1', w_cut0, w_ty1, w_ty2, w_ty3, w_ty4, w_ty5, w_ty6, w_ty7, w_ty8, w_ty9, w_ty10, w_ty11, w_ty12, w_ty13, w_ty14, w_ty15, w_ty16, w_ty17, w_ty18, w_ty19, w_ty20, w_ty21, w_mapc, w_mapn, w_appc, w_appn, w_repc, w_repn, w_start, w_lenc, w_ifT, w_ifF, w_ifFF, w_ifTF, w_nT, w_nF, w_anyT, w_anyF, w_d22, ifSome_some, ifLst_lst, ifTup_tup, ifInt_int, lget, lset, lsets, Nat.reduceSub, Nat.reduceAdd, List.length_nil, ↓reduceIte]
  refine s_pdiv ?_
  have ok := gcd_ok (a := a) hb hs
  by_cases h : b < 0
  · rw [decide_eq_true h]
    exact ⟨ok.2, ok.2, hQ _ (by rw [if_pos h])⟩
  · rw [decide_eq_false h]
    exact ⟨ok.1, ok.1, hQ _ (by rw [if_neg h])⟩
theorem s_lpart {a b : Int} (hb : b ≠ 0) (hs : Sm 1000 b) (hQ : Q (.tup [.int (a.fdiv ((a.gcd b : Nat) : Int)), .int (b.fdiv ((a.gcd b : Nat) : Int))]) H) : callN nosub fnTab (n + 2) 10 [.int a, .int b] H Q X := by
  refine callN_mk rfl rfl ?_
  dsimp only [b_law_part, wpS, wpE, wpEs, wpAll, wpO, wpI, w_add, w_addl, w_sub, w_mul, w_mull, w_fdiv, w_mod, w_pow, w_lt, w_le, w_gt, w_ge, w_eq, w_ne, w_eqt, w_eql, w_net, w_nel, w_isn, w_ist, w_isi, w_isl, w_abs, w_lent, w_lenl, w_intb, w_list, w_tuple, w_min, w_idxt0, w_idxt1, w_idxu0, w_idxu1, w_idxu2, w_idxl, w_slcl, w_slct, w_tb, w_ti, w_tn, w_tt, w_tl, w_itt, w_itl, w_bindT1, w_bindT2, w_srcl, w_srct, w_cut2, w_cut1, w_cut1', w_cut0, w_ty1, w_ty2, w_ty3, w_ty4, w_ty5, w_ty6, w_ty7, w_ty8, w_ty9, w_ty10, w_ty11, w_ty12, w_ty13, w_ty14, w_ty15, w_ty16, w_ty17, w_ty18, w_ty19, w_ty20, w_ty21, w_mapc, w_mapn, w_appc, w_appn, w_repc, w_repn, w_start, w_lenc, w_ifT, w_ifF, w_ifFF, w_ifTF, w_nT, w_nF, w_anyT, w_anyF, w_d22, ifSome_some, ifLst_lst, ifTup_tup, ifInt_int, lget, lset, lsets, Nat.reduceSub, Nat.reduceAdd, List.length_nil, ↓reduceIte]
  refine s_div rfl ?_
  have ok := gcd_ok (a := a) hb hs
  exact ⟨ok.1, ok.1, hQ⟩
theorem s_alike {a b c d : Int} (h : a = c ∧ b = d) (hQ : Q (.bool true) H) : callN nosub fnTab (n + 2) 11 [.tup [.int a, .int b], .tup [.int c, .int d]] H Q X := by
  refine callN_mk rfl rfl ?_
  dsimp only [b_law_alike, wpS, wpE, wpEs, wpAll, wpO, wpI, w_add, w_addl, w_sub, w_mul, w_mull, w_fdiv, w_mod, w_pow, w_lt, w_le, w_gt, w_ge, w_eq, w_ne, w_eqt, w_eql, w_net, w_nel, w_isn, w_ist, w_isi, w_isl, w_abs, w_lent, w_lenl, w_intb, w_list, w_tuple, w_min, w_idxt0, w_idxt1, w_idxu0, w_idxu1, w_idxu2, w_idxl, w_slcl, w_slct, w_tb, w_ti, w_tn, w_tt, w_tl, w_itt, w_itl, w_bindT1, w_bindT2, w_srcl, w_srct, w_cut2, w_cut1, w_cut1', w_cut0, w_ty1, w_ty2, w_ty3, w_ty4, w_ty5, w_ty6, w_ty7, w_ty8, w_ty9, w_ty10, w_ty11, w_ty12, w_ty13, w_ty14, w_ty15, w_ty16, w_ty17, w_ty18, w_ty19, w_ty20, w_ty21, w_mapc, w_mapn, w_appc, w_appn, w_repc, w_repn, w_start, w_lenc, w_ifT, w_ifF, w_ifFF, w_ifTF, w_nT, w_nF, w_anyT, w_anyF, w_d22, ifSome_some, ifLst_lst, ifTup_tup, ifInt_int, lget, lset, lsets, Nat.reduceSub, Nat.reduceAdd, List.length_nil, ↓reduceIte, t_law_alike_1]
  refine ifSome.mk (v := [true]) rfl ?_
  refine (if_pos (show (![true].any id) = false from rfl)).mpr ?_
  refine s_whole (n := n) (f := 5) (P := fnTab) (sub := nosub) (x := a) rfl ?_
  dsimp only [wpS, wpE, wpEs, wpAll, wpO, wpI, w_add, w_addl, w_sub, w_mul, w_mull, w_fdiv, w_mod, w_pow, w_lt, w_le, w_gt, w_ge, w_eq, w_ne, w_eqt, w_eql, w_net, w_nel, w_isn, w_ist, w_isi, w_isl, w_abs, w_lent, w_lenl, w_intb, w_list, w_tuple, w_min, w_idxt0, w_idxt1, w_idxu0, w_idxu1, w_idxu2, w_idxl, w_slcl, w_slct, w_tb, w_ti, w_tn, w_tt, w_tl, w_itt, w_itl, w_bindT1, w_bindT2, w_srcl, w_srct, w_cut2, w_cut1, w_cut1', w_cut0, w_ty1, w_ty2, w_ty3, w_ty4, w_ty5, w_ty6, w_ty7, w_ty8, w_ty9, w_ty10, w_ty11, w_ty12, w_ty13, w_ty14, w_ty15, w_ty16, w_ty17, w_ty18, w_ty19, w_ty20, w_ty21, w_mapc, w_mapn, w_appc, w_appn, w_repc, w_repn, w_start, w_lenc, w_ifT, w_ifF, w_ifFF, w_ifTF, w_nT, w_nF, w_anyT, w_anyF, w_d22, ifSome_some, ifLst_lst, ifTup_tup, ifInt_int, lget, lset, lsets, Nat.reduceSub, Nat.reduceAdd, List.length_nil, ↓reduceIte]
  refine s_whole (n := n) (f := 5) (P := fnTab) (sub := nosub) (x := b) rfl ?_
  dsimp only [wpS, wpE, wpEs, wpAll, wpO, wpI, w_add, w_addl, w_sub, w_mul, w_mull, w_fdiv, w_mod, w_pow, w_lt, w_le, w_gt, w_ge, w_eq, w_ne, w_eqt, w_eql, w_net, w_nel, w_isn, w_ist, w_isi, w_isl, w_abs, w_lent, w_lenl, w_intb, w_list, w_tuple, w_min, w_idxt0, w_idxt1, w_idxu0, w_idxu1, w_idxu2, w_idxl, w_slcl, w_slct, w_tb, w_ti, w_tn, w_tt, w_tl, w_itt, w_itl, w_bindT1, w_bindT2, w_srcl, w_srct, w_cut2, w_cut1, w_cut1', w_cut0, w_ty1, w_ty2, w_ty3, w_ty4, w_ty5, w_ty6, w_ty7, w_ty8, w_ty9, w_ty10, w_ty11, w_ty12, w_ty13, w_ty14, w_ty15, w_ty16, w_ty17, w_ty18, w_ty19, w_ty20, w_ty21, w_mapc, w_mapn, w_appc, w_appn, w_repc, w_repn, w_start, w_lenc, w_ifT, w_ifF, w_ifFF, w_ifTF, w_nT, w_nF, w_anyT, w_anyF, w_d22, ifSome_some, ifLst_lst, ifTup_tup, ifInt_int, lget, lset, lsets, Nat.reduceSub, Nat.reduceAdd, List.length_nil, ↓reduceIte]
  refine eqWp_pair ?_
  rw [decide_eq_true h]; exact hQ
theorem s_below {p1 q1 p2 q2 : Int} (m1 : IntMulOk p1 q2) (m2 : IntMulOk p2 q1) (hQ : Q (.bool (decide (p1 * q2 < p2 * q1))) H) : callN nosub fnTab (n + 1) 2 [.tup [.int p1, .int q1], .tup [.int p2, .int q2]] H Q X := by
  refine callN_mk rfl rfl ?_
  dsimp only [b_below, wpS, wpE, wpEs, wpAll, wpO, wpI, w_add, w_addl, w_sub, w_mul, w_mull, w_fdiv, w_mod, w_pow, w_lt, w_le, w_gt, w_ge, w_eq, w_ne, w_eqt, w_eql, w_net, w_nel, w_isn, w_ist, w_isi, w_isl, w_abs, w_lent, w_lenl, w_intb, w_list, w_tuple, w_min, w_idxt0, w_idxt1, w_idxu0, w_idxu1, w_idxu2, w_idxl, w_slcl, w_slct, w_tb, w_ti, w_tn, w_tt, w_tl, w_itt, w_itl, w_bindT1, w_bindT2, w_srcl, w_srct, w_cut2, w_cut1, w_cut1', w_cut0, w_ty1, w_ty2, w_ty3, w_ty4, w_ty5, w_ty6, w_ty7, w_ty8, w_ty9, w_ty10, w_ty11, w_ty12, w_ty13, w_ty14, w_ty15, w_ty16, w_ty17, w_ty18, w_ty19, w_ty20, w_ty21, w_mapc, w_mapn, w_appc, w_appn, w_repc, w_repn, w_start, w_lenc, w_ifT, w_ifF, w_ifFF, w_ifTF, w_nT, w_nF, w_anyT, w_anyF, w_d22, ifSome_some, ifLst_lst, ifTup_tup, ifInt_int, lget, lset, lsets, Nat.reduceSub, Nat.reduceAdd, List.length_nil, ↓reduceIte]
  exact ⟨m1, m2, hQ⟩
theorem s_met {p1 q1 p2 q2 : Int} (a1 : Sm 200 p1) (a2 : Sm 200 q1) (a3 : Sm 200 p2) (a4 : Sm 200 q2) (h1 : 0 < q1) (h2 : 0 < q2) (hQ : Q (.bool true) H) : callN nosub fnTab (n + 4) 12 [.tup [.int p1, .int q1], .tup [.int p2, .int q2]] H Q X := by
  have m12 : IntMulOk p1 q2 := IntMulOk.sm a1 a4 (by decide) (by decide)
  have m21 : IntMulOk p2 q1 := IntMulOk.sm a3 a2 (by decide) (by decide)
  have mq : IntMulOk q1 q2 := IntMulOk.sm a2 a4 (by decide) (by decide)
  have mp : IntMulOk p1 p2 := IntMulOk.sm a1 a3 (by decide) (by decide)
  have hq : 0 < q1 * q2 := Int.mul_pos h1 h2
  have hqs : Sm 1000 (q1 * q2) := (a2.mul a4).mono (by decide)
  have hqn : ¬ q1 * q2 < 0 := by omega
  refine callN_mk rfl rfl ?_
  dsimp only [b_law_met, wpS, wpE, wpEs, wpAll, wpO, wpI, w_add, w_addl, w_sub, w_mul, w_mull, w_fdiv, w_mod, w_pow, w_lt, w_le, w_gt, w_ge, w_eq, w_ne, w_eqt, w_eql, w_net, w_nel, w_isn, w_ist, w_isi, w_isl, w_abs, w_lent, w_lenl, w_intb, w_list, w_tuple, w_min, w_idxt0, w_idxt1, w_idxu0, w_idxu1, w_idxu2, w_idxl, w_slcl, w_slct, w_tb, w_ti, w_tn, w_tt, w_tl, w_itt, w_itl, w_bindT1, w_bindT2, w_srcl, w_srct, w_cut2, w_cut1, w_cut1', w_cut0, w_ty1, w_ty2, w_ty3, w_ty4, w_ty5, w_ty6, w_ty7, w_ty8, w_ty9, w_ty10, w_ty11, w_ty12, w_ty13, w_ty14, w_ty15, w_ty16, w_ty17, w_ty18, w_ty19, w_ty20, w_ty21, w_mapc, w_mapn, w_appc, w_appn, w_repc, w_repn, w_start, w_lenc, w_ifT, w_ifF, w_ifFF, w_ifTF, w_nT, w_nF, w_anyT, w_anyF, w_d22, ifSome_some, ifLst_lst, ifTup_tup, ifInt_int, lget, lset, lsets, Nat.reduceSub, Nat.reduceAdd, List.length_nil, ↓reduceIte]
  refine s_below m12 m21 ?_
  refine ifSome.mk (v := [true]) rfl ?_
  dsimp only [wpS, wpE, wpEs, wpAll, wpO, wpI, w_add, w_addl, w_sub, w_mul, w_mull, w_fdiv, w_mod, w_pow, w_lt, w_le, w_gt, w_ge, w_eq, w_ne, w_eqt, w_eql, w_net, w_nel, w_isn, w_ist, w_isi, w_isl, w_abs, w_lent, w_lenl, w_intb, w_list, w_tuple, w_min, w_idxt0, w_idxt1, w_idxu0, w_idxu1, w_idxu2, w_idxl, w_slcl, w_slct, w_tb, w_ti, w_tn, w_tt, w_tl, w_itt, w_itl, w_bindT1, w_bindT2, w_srcl, w_srct, w_cut2, w_cut1, w_cut1', w_cut0, w_ty1, w_ty2, w_ty3, w_ty4, w_ty5, w_ty6, w_ty7, w_ty8, w_ty9, w_ty10, w_ty11, w_ty12, w_ty13, w_ty14, w_ty15, w_ty16, w_ty17, w_ty18, w_ty19, w_ty20, w_ty21, w_mapc, w_mapn, w_appc, w_appn, w_repc, w_repn, w_start, w_lenc, w_ifT, w_ifF, w_ifFF, w_ifTF, w_nT, w_nF, w_anyT, w_anyF, w_d22, ifSome_some, ifLst_lst, ifTup_tup, ifInt_int, lget, lset, lsets, Nat.reduceSub, Nat.reduceAdd, List.length_nil, ↓reduceIte]
  refine ⟨m12, m21, ?_⟩
  refine ⟨_, _, rfl, rfl, ?_⟩
  have e : PyData.eqv (.bool (decide (p1 * q2 < p2 * q1))) (.bool (decide (p1 * q2 < p2 * q1))) = true := by cases (decide (p1 * q2 < p2 * q1)) <;> rfl
  rw [e]
  dsimp only [wpS, wpE, wpEs, wpAll, wpO, wpI, w_add, w_addl, w_sub, w_mul, w_mull, w_fdiv, w_mod, w_pow, w_lt, w_le, w_gt, w_ge, w_eq, w_ne, w_eqt, w_eql, w_net, w_nel, w_isn, w_ist, w_isi, w_isl, w_abs, w_lent, w_lenl, w_intb, w_list, w_tuple, w_min, w_idxt0, w_idxt1, w_idxu0, w_idxu1, w_idxu2, w_idxl, w_slcl, w_slct, w_tb, w_ti, w_tn, w_tt, w_tl, w_itt, w_itl, w_bindT1, w_bindT2, w_srcl, w_srct, w_cut2, w_cut1, w_cut1', w_cut0, w_ty1, w_ty2, w_ty3, w_ty4, w_ty5, w_ty6, w_ty7, w_ty8, w_ty9, w_ty10, w_ty11, w_ty12, w_ty13, w_ty14, w_ty15, w_ty16, w_ty17, w_ty18, w_ty19, w_ty20, w_ty21, w_mapc, w_mapn, w_appc, w_appn, w_repc, w_repn, w_start, w_lenc, w_ifT, w_ifF, w_ifFF, w_ifTF, w_nT, w_nF, w_anyT, w_anyF, w_d22, ifSome_some, ifLst_lst, ifTup_tup, ifInt_int, lget, lset, lsets, Nat.reduceSub, Nat.reduceAdd, List.length_nil, ↓reduceIte, t_law_met_2]
  refine ⟨m12, m21, mq, ?_⟩
  refine s_lpart (Int.ne_of_gt hq) hqs ?_
  have psum : ∀ {Q' : V → Hp → Prop} {X' : Nat → Hp → Prop}, (Q' (.tup [.int ((p1 * q2 + p2 * q1).fdiv (((p1 * q2 + p2 * q1).gcd (q1 * q2) : Nat) : Int)), .int ((q1 * q2).fdiv (((p1 * q2 + p2 * q1).gcd (q1 * q2) : Nat) : Int))]) H) → callN nosub fnTab (n + 3) 3 [.tup [.int p1, .int q1], .tup [.int p2, .int q2]] H Q' X' := fun {Q' X'} h => by
    refine callN_mk rfl rfl ?_
    dsimp only [b_part_sum, wpS, wpE, wpEs, wpAll, wpO, wpI, w_add, w_addl, w_sub, w_mul, w_mull, w_fdiv, w_mod, w_pow, w_lt, w_le, w_gt, w_ge, w_eq, w_ne, w_eqt, w_eql, w_net, w_nel, w_isn, w_ist, w_isi, w_isl, w_abs, w_lent, w_lenl, w_intb, w_list, w_tuple, w_min, w_idxt0, w_idxt1, w_idxu0, w_idxu1, w_idxu2, w_idxl, w_slcl, w_slct, w_tb, w_ti, w_tn, w_tt, w_tl, w_itt, w_itl, w_bindT1, w_bindT2, w_srcl, w_srct, w_cut2, w_cut1, w_cut1', w_cut0, w_ty1, w_ty2, w_ty3, w_ty4, w_ty5, w_ty6, w_ty7, w_ty8, w_ty9, w_ty10, w_ty11, w_ty12, w_ty13, w_ty14, w_ty15, w_ty16, w_ty17, w_ty18, w_ty19, w_ty20, w_ty21, w_mapc, w_mapn, w_appc, w_appn, w_repc, w_repn, w_start, w_lenc, w_ifT, w_ifF, w_ifFF, w_ifTF, w_nT, w_nF, w_anyT, w_anyF, w_d22, ifSome_some, ifLst_lst, ifTup_tup, ifInt_int, lget, lset, lsets, Nat.reduceSub, Nat.reduceAdd, List.length_nil, ↓reduceIte]
    refine ⟨m12, m21, mq, ?_⟩
    refine s_ppart (Int.ne_of_gt hq) hqs fun g hg => ?_
    rw [hg, if_neg hqn]; exact h
  refine psum ?_
  refine s_alike ⟨rfl, rfl⟩ ?_
  dsimp only [wpS, wpE, wpEs, wpAll, wpO, wpI, w_add, w_addl, w_sub, w_mul, w_mull, w_fdiv, w_mod, w_pow, w_lt, w_le, w_gt, w_ge, w_eq, w_ne, w_eqt, w_eql, w_net, w_nel, w_isn, w_ist, w_isi, w_isl, w_abs, w_lent, w_lenl, w_intb, w_list, w_tuple, w_min, w_idxt0, w_idxt1, w_idxu0, w_idxu1, w_idxu2, w_idxl, w_slcl, w_slct, w_tb, w_ti, w_tn, w_tt, w_tl, w_itt, w_itl, w_bindT1, w_bindT2, w_srcl, w_srct, w_cut2, w_cut1, w_cut1', w_cut0, w_ty1, w_ty2, w_ty3, w_ty4, w_ty5, w_ty6, w_ty7, w_ty8, w_ty9, w_ty10, w_ty11, w_ty12, w_ty13, w_ty14, w_ty15, w_ty16, w_ty17, w_ty18, w_ty19, w_ty20, w_ty21, w_mapc, w_mapn, w_appc, w_appn, w_repc, w_repn, w_start, w_lenc, w_ifT, w_ifF, w_ifFF, w_ifTF, w_nT, w_nF, w_anyT, w_anyF, w_d22, ifSome_some, ifLst_lst, ifTup_tup, ifInt_int, lget, lset, lsets, Nat.reduceSub, Nat.reduceAdd, List.length_nil, ↓reduceIte, t_law_met_1]
  have pprod : ∀ {Q' : V → Hp → Prop} {X' : Nat → Hp → Prop}, (Q' (.tup [.int ((p1 * p2).fdiv (((p1 * p2).gcd (q1 * q2) : Nat) : Int)), .int ((q1 * q2).fdiv (((p1 * p2).gcd (q1 * q2) : Nat) : Int))]) H) → callN nosub fnTab (n + 3) 4 [.tup [.int p1, .int q1], .tup [.int p2, .int q2]] H Q' X' := fun {Q' X'} h => by
    refine callN_mk rfl rfl ?_
    dsimp only [b_part_product, wpS, wpE, wpEs, wpAll, wpO, wpI, w_add, w_addl, w_sub, w_mul, w_mull, w_fdiv, w_mod, w_pow, w_lt, w_le, w_gt, w_ge, w_eq, w_ne, w_eqt, w_eql, w_net, w_nel, w_isn, w_ist, w_isi, w_isl, w_abs, w_lent, w_lenl, w_intb, w_list, w_tuple, w_min, w_idxt0, w_idxt1, w_idxu0, w_idxu1, w_idxu2, w_idxl, w_slcl, w_slct, w_tb, w_ti, w_tn, w_tt, w_tl, w_itt, w_itl, w_bindT1, w_bindT2, w_srcl, w_srct, w_cut2, w_cut1, w_cut1', w_cut0, w_ty1, w_ty2, w_ty3, w_ty4, w_ty5, w_ty6, w_ty7, w_ty8, w_ty9, w_ty10, w_ty11, w_ty12, w_ty13, w_ty14, w_ty15, w_ty16, w_ty17, w_ty18, w_ty19, w_ty20, w_ty21, w_mapc, w_mapn, w_appc, w_appn, w_repc, w_repn, w_start, w_lenc, w_ifT, w_ifF, w_ifFF, w_ifTF, w_nT, w_nF, w_anyT, w_anyF, w_d22, ifSome_some, ifLst_lst, ifTup_tup, ifInt_int, lget, lset, lsets, Nat.reduceSub, Nat.reduceAdd, List.length_nil, ↓reduceIte]
    refine ⟨mp, mq, ?_⟩
    refine s_ppart (Int.ne_of_gt hq) hqs fun g hg => ?_
    rw [hg, if_neg hqn]; exact h
  refine pprod ?_
  refine ⟨mp, mq, ?_⟩
  exact s_lpart (Int.ne_of_gt hq) hqs (s_alike ⟨rfl, rfl⟩ hQ)
theorem s_number {m : Nat} {ns : List Int} {k : Int} (hk : 0 ≤ k) (hm : H[m]? = some (ns.map .int)) (hQ : ∀ H' x, H <+: H' → Sm 110 x → Q (.int x) H') : callN nosub fnTab (n + 2) 8 [.lst m, .int k] H Q X := by
  refine callN_mk rfl rfl ?_
  dsimp only [b_law_number, wpS, wpE, wpEs, wpAll, wpO, wpI, w_add, w_addl, w_sub, w_mul, w_mull, w_fdiv, w_mod, w_pow, w_lt, w_le, w_gt, w_ge, w_eq, w_ne, w_eqt, w_eql, w_net, w_nel, w_isn, w_ist, w_isi, w_isl, w_abs, w_lent, w_lenl, w_intb, w_list, w_tuple, w_min, w_idxt0, w_idxt1, w_idxu0, w_idxu1, w_idxu2, w_idxl, w_slcl, w_slct, w_tb, w_ti, w_tn, w_tt, w_tl, w_itt, w_itl, w_bindT1, w_bindT2, w_srcl, w_srct, w_cut2, w_cut1, w_cut1', w_cut0, w_ty1, w_ty2, w_ty3, w_ty4, w_ty5, w_ty6, w_ty7, w_ty8, w_ty9, w_ty10, w_ty11, w_ty12, w_ty13, w_ty14, w_ty15, w_ty16, w_ty17, w_ty18, w_ty19, w_ty20, w_ty21, w_mapc, w_mapn, w_appc, w_appn, w_repc, w_repn, w_start, w_lenc, w_ifT, w_ifF, w_ifFF, w_ifTF, w_nT, w_nF, w_anyT, w_anyF, w_d22, ifSome_some, ifLst_lst, ifTup_tup, ifInt_int, lget, lset, lsets, Nat.reduceSub, Nat.reduceAdd, List.length_nil, ↓reduceIte]
  refine s_cell rfl hk hm ?_
  refine s_cell rfl (by decide) hm ?_
  generalize cellI ns k.toNat = c
  refine ⟨by decide, ?_⟩
  dsimp only [wpS, wpE, wpEs, wpAll, wpO, wpI, w_add, w_addl, w_sub, w_mul, w_mull, w_fdiv, w_mod, w_pow, w_lt, w_le, w_gt, w_ge, w_eq, w_ne, w_eqt, w_eql, w_net, w_nel, w_isn, w_ist, w_isi, w_isl, w_abs, w_lent, w_lenl, w_intb, w_list, w_tuple, w_min, w_idxt0, w_idxt1, w_idxu0, w_idxu1, w_idxu2, w_idxl, w_slcl, w_slct, w_tb, w_ti, w_tn, w_tt, w_tl, w_itt, w_itl, w_bindT1, w_bindT2, w_srcl, w_srct, w_cut2, w_cut1, w_cut1', w_cut0, w_ty1, w_ty2, w_ty3, w_ty4, w_ty5, w_ty6, w_ty7, w_ty8, w_ty9, w_ty10, w_ty11, w_ty12, w_ty13, w_ty14, w_ty15, w_ty16, w_ty17, w_ty18, w_ty19, w_ty20, w_ty21, w_mapc, w_mapn, w_appc, w_appn, w_repc, w_repn, w_start, w_lenc, w_ifT, w_ifF, w_ifFF, w_ifTF, w_nT, w_nF, w_anyT, w_anyF, w_d22, ifSome_some, ifLst_lst, ifTup_tup, ifInt_int, lget, lset, lsets, Nat.reduceSub, Nat.reduceAdd, List.length_nil, ↓reduceIte]
  generalize (cellI ns (0 : Int).toNat).fmod 3 = w
  by_cases h1 : w = 1
  · rw [decide_eq_true h1, if_pos rfl]
    refine ⟨by decide, ?_⟩
    refine s_cell rfl (by decide) hm ?_
    refine ⟨by decide, ?_⟩
    have b1 : Sm 8 (c.fmod 61 - 30) := fmod_sub_sm (by decide) (by decide) (by decide)
    have b2 : Sm 7 (2 + (cellI ns (3 : Int).toNat).fmod 39) := Sm.add (k := 6) (by unfold Sm; decide) (fmod_sm (by decide) (by decide))
    exact ⟨IntMulOk.left (b1.mono (by decide)), hQ _ _ (List.prefix_refl _) ((b1.mul b2).mono (by decide))⟩
  · rw [decide_eq_false h1, if_neg Bool.false_ne_true]
    dsimp only [t_law_number_2, wpS, wpE, wpEs, wpAll, wpO, wpI, w_add, w_addl, w_sub, w_mul, w_mull, w_fdiv, w_mod, w_pow, w_lt, w_le, w_gt, w_ge, w_eq, w_ne, w_eqt, w_eql, w_net, w_nel, w_isn, w_ist, w_isi, w_isl, w_abs, w_lent, w_lenl, w_intb, w_list, w_tuple, w_min, w_idxt0, w_idxt1, w_idxu0, w_idxu1, w_idxu2, w_idxl, w_slcl, w_slct, w_tb, w_ti, w_tn, w_tt, w_tl, w_itt, w_itl, w_bindT1, w_bindT2, w_srcl, w_srct, w_cut2, w_cut1, w_cut1', w_cut0, w_ty1, w_ty2, w_ty3, w_ty4, w_ty5, w_ty6, w_ty7, w_ty8, w_ty9, w_ty10, w_ty11, w_ty12, w_ty13, w_ty14, w_ty15, w_ty16, w_ty17, w_ty18, w_ty19, w_ty20, w_ty21, w_mapc, w_mapn, w_appc, w_appn, w_repc, w_repn, w_start, w_lenc, w_ifT, w_ifF, w_ifFF, w_ifTF, w_nT, w_nF, w_anyT, w_anyF, w_d22, ifSome_some, ifLst_lst, ifTup_tup, ifInt_int, lget, lset, lsets, Nat.reduceSub, Nat.reduceAdd, List.length_nil, ↓reduceIte]
    by_cases h2 : w = 2
    · rw [decide_eq_true h2, if_pos rfl]
      refine ⟨DivOk.sm (by decide) (by unfold Sm; decide), by decide, by decide, by decide, by decide, DivOk.sm (by decide) (by unfold Sm; decide), by decide, by decide, by decide, by decide, by decide, ?_⟩
      have b1 : Sm 100 ((c.fdiv 2).fmod (10 ^ 30)) := fmod_sm (by decide) (by decide)
      refine ifSome.mk (getApp _ _ _) ?_
      rcases (by have := Int.fmod_nonneg_of_pos c (b := 2) (by decide); have := Int.fmod_lt_of_pos c (b := 2) (by decide); omega : c.fmod 2 = 0 ∨ c.fmod 2 = 1) with h | h
      · rw [h]
        exact ifSome.mk (v := 0) rfl (ifSome.mk rfl (hQ _ _ (preApp _ _) (b1.mono (by decide))))
      · rw [h]
        exact ifSome.mk (v := 1) rfl (ifSome.mk rfl (hQ _ _ (preApp _ _) ((Sm.sub (k := 100) (by unfold Sm; decide) b1).mono (by decide))))
    · rw [decide_eq_false h2, if_neg Bool.false_ne_true]
      dsimp only [t_law_number_1, wpS, wpE, wpEs, wpAll, wpO, wpI, w_add, w_addl, w_sub, w_mul, w_mull, w_fdiv, w_mod, w_pow, w_lt, w_le, w_gt, w_ge, w_eq, w_ne, w_eqt, w_eql, w_net, w_nel, w_isn, w_ist, w_isi, w_isl, w_abs, w_lent, w_lenl, w_intb, w_list, w_tuple, w_min, w_idxt0, w_idxt1, w_idxu0, w_idxu1, w_idxu2, w_idxl, w_slcl, w_slct, w_tb, w_ti, w_tn, w_tt, w_tl, w_itt, w_itl, w_bindT1, w_bindT2, w_srcl, w_srct, w_cut2, w_cut1, w_cut1', w_cut0, w_ty1, w_ty2, w_ty3, w_ty4, w_ty5, w_ty6, w_ty7, w_ty8, w_ty9, w_ty10, w_ty11, w_ty12, w_ty13, w_ty14, w_ty15, w_ty16, w_ty17, w_ty18, w_ty19, w_ty20, w_ty21, w_mapc, w_mapn, w_appc, w_appn, w_repc, w_repn, w_start, w_lenc, w_ifT, w_ifF, w_ifFF, w_ifTF, w_nT, w_nF, w_anyT, w_anyF, w_d22, ifSome_some, ifLst_lst, ifTup_tup, ifInt_int, lget, lset, lsets, Nat.reduceSub, Nat.reduceAdd, List.length_nil, ↓reduceIte]
      exact ⟨by decide, hQ _ _ (List.prefix_refl _) ((fmod_sub_sm (k := 8) (by decide) (by decide) (by decide)).mono (by decide))⟩
end
noncomputable def Psi : Nat → List V → Hp → (V → Hp → Prop) → Prop := fun k vs H Q => k = 9 ∧ ∃ t, vs = [.int t] ∧ Q (.bool true) H
noncomputable def F (t : PS) (ρ : Loc) (H : Hp) : Prop := wpS nosub (topC Psi (callN nosub fnTab 4)) (fun m => 1 ≤ m) t ρ H (fun _ _ => V.none = .bool true) (fun v _ => v = .bool true) (fun _ _ => False)
theorem low_sm {a b p q g : Int} (hb : b ≠ 0) (hg : g.natAbs = a.gcd b) (e1 : p * g = a) (e2 : q * g = b) {k : Nat} (ha : Sm k a) (hbs : Sm k b) : Sm k p ∧ Sm k q ∧ p.gcd q = 1 ∧ p * b = a * q := by
  have h0 : 0 < a.gcd b := Int.gcd_pos_of_ne_zero_right a hb
  refine ⟨?_, ?_, ?_, ?_⟩
  · refine Nat.lt_of_le_of_lt ?_ ha
    rw [← e1, Int.natAbs_mul, hg]; exact Nat.le_mul_of_pos_right _ h0
  · refine Nat.lt_of_le_of_lt ?_ hbs
    rw [show b.natAbs = (q * g).natAbs by rw [e2], Int.natAbs_mul, hg]; exact Nat.le_mul_of_pos_right _ h0
  · have h : p.gcd q * a.gcd b = 1 * a.gcd b := by
      have := Int.gcd_mul_right p g q
      rw [e1, e2, hg] at this
      rw [← this, Nat.one_mul]
    exact Nat.eq_of_mul_eq_mul_right h0 h
  · rw [← e1, ← e2]; grind
theorem tail2 {H : Hp} {ns : List Int} {p q : Int} {v1 v2 o : Option V} (h0 : H[0]? = some (ns.map .int)) (hp : Sm 110 p) (hq : Sm 110 q) (hq0 : 0 < q) :
    F t_law_2 [some (.lst 0), v1, v2, some (.tup [.int p, .int q]), o] H := by
  unfold F
  dsimp only [t_law_2, wpS, wpE, wpEs, wpAll, wpO, wpI, w_add, w_addl, w_sub, w_mul, w_mull, w_fdiv, w_mod, w_pow, w_lt, w_le, w_gt, w_ge, w_eq, w_ne, w_eqt, w_eql, w_net, w_nel, w_isn, w_ist, w_isi, w_isl, w_abs, w_lent, w_lenl, w_intb, w_list, w_tuple, w_min, w_idxt0, w_idxt1, w_idxu0, w_idxu1, w_idxu2, w_idxl, w_slcl, w_slct, w_tb, w_ti, w_tn, w_tt, w_tl, w_itt, w_itl, w_bindT1, w_bindT2, w_srcl, w_srct, w_cut2, w_cut1, w_cut1', w_cut0, w_ty1, w_ty2, w_ty3, w_ty4, w_ty5, w_ty6, w_ty7, w_ty8, w_ty9, w_ty10, w_ty11, w_ty12, w_ty13, w_ty14, w_ty15, w_ty16, w_ty17, w_ty18, w_ty19, w_ty20, w_ty21, w_mapc, w_mapn, w_appc, w_appn, w_repc, w_repn, w_start, w_lenc, w_ifT, w_ifF, w_ifFF, w_ifTF, w_nT, w_nF, w_anyT, w_anyF, w_d22, ifSome_some, ifLst_lst, ifTup_tup, ifInt_int, lget, lset, lsets, Nat.reduceSub, Nat.reduceAdd, List.length_nil, ↓reduceIte]
  refine topC_c (by decide) (s_cell rfl (by decide) h0 ⟨by decide, ?_⟩)
  dsimp only [wpS, wpE, wpEs, wpAll, wpO, wpI, w_add, w_addl, w_sub, w_mul, w_mull, w_fdiv, w_mod, w_pow, w_lt, w_le, w_gt, w_ge, w_eq, w_ne, w_eqt, w_eql, w_net, w_nel, w_isn, w_ist, w_isi, w_isl, w_abs, w_lent, w_lenl, w_intb, w_list, w_tuple, w_min, w_idxt0, w_idxt1, w_idxu0, w_idxu1, w_idxu2, w_idxl, w_slcl, w_slct, w_tb, w_ti, w_tn, w_tt, w_tl, w_itt, w_itl, w_bindT1, w_bindT2, w_srcl, w_srct, w_cut2, w_cut1, w_cut1', w_cut0, w_ty1, w_ty2, w_ty3, w_ty4, w_ty5, w_ty6, w_ty7, w_ty8, w_ty9, w_ty10, w_ty11, w_ty12, w_ty13, w_ty14, w_ty15, w_ty16, w_ty17, w_ty18, w_ty19, w_ty20, w_ty21, w_mapc, w_mapn, w_appc, w_appn, w_repc, w_repn, w_start, w_lenc, w_ifT, w_ifF, w_ifFF, w_ifTF, w_nT, w_nF, w_anyT, w_anyF, w_d22, ifSome_some, ifLst_lst, ifTup_tup, ifInt_int, lget, lset, lsets, Nat.reduceSub, Nat.reduceAdd, List.length_nil, ↓reduceIte]
  by_cases h : (cellI ns (5 : Int).toNat).fmod 4 = 1
  · rw [decide_eq_true h]
    dsimp only [t_law_1, wpS, wpE, wpEs, wpAll, wpO, wpI, w_add, w_addl, w_sub, w_mul, w_mull, w_fdiv, w_mod, w_pow, w_lt, w_le, w_gt, w_ge, w_eq, w_ne, w_eqt, w_eql, w_net, w_nel, w_isn, w_ist, w_isi, w_isl, w_abs, w_lent, w_lenl, w_intb, w_list, w_tuple, w_min, w_idxt0, w_idxt1, w_idxu0, w_idxu1, w_idxu2, w_idxl, w_slcl, w_slct, w_tb, w_ti, w_tn, w_tt, w_tl, w_itt, w_itl, w_bindT1, w_bindT2, w_srcl, w_srct, w_cut2, w_cut1, w_cut1', w_cut0, w_ty1, w_ty2, w_ty3, w_ty4, w_ty5, w_ty6, w_ty7, w_ty8, w_ty9, w_ty10, w_ty11, w_ty12, w_ty13, w_ty14, w_ty15, w_ty16, w_ty17, w_ty18, w_ty19, w_ty20, w_ty21, w_mapc, w_mapn, w_appc, w_appn, w_repc, w_repn, w_start, w_lenc, w_ifT, w_ifF, w_ifFF, w_ifTF, w_nT, w_nF, w_anyT, w_anyF, w_d22, ifSome_some, ifLst_lst, ifTup_tup, ifInt_int, lget, lset, lsets, Nat.reduceSub, Nat.reduceAdd, List.length_nil, ↓reduceIte]
    exact topC_c (by decide) (s_met (hp.mono (by decide)) (hq.mono (by decide)) (hp.mono (by decide)) (hq.mono (by decide)) hq0 hq0 rfl)
  · rw [decide_eq_false h]
    dsimp only [wpS, wpE, wpEs, wpAll, wpO, wpI, w_add, w_addl, w_sub, w_mul, w_mull, w_fdiv, w_mod, w_pow, w_lt, w_le, w_gt, w_ge, w_eq, w_ne, w_eqt, w_eql, w_net, w_nel, w_isn, w_ist, w_isi, w_isl, w_abs, w_lent, w_lenl, w_intb, w_list, w_tuple, w_min, w_idxt0, w_idxt1, w_idxu0, w_idxu1, w_idxu2, w_idxl, w_slcl, w_slct, w_tb, w_ti, w_tn, w_tt, w_tl, w_itt, w_itl, w_bindT1, w_bindT2, w_srcl, w_srct, w_cut2, w_cut1, w_cut1', w_cut0, w_ty1, w_ty2, w_ty3, w_ty4, w_ty5, w_ty6, w_ty7, w_ty8, w_ty9, w_ty10, w_ty11, w_ty12, w_ty13, w_ty14, w_ty15, w_ty16, w_ty17, w_ty18, w_ty19, w_ty20, w_ty21, w_mapc, w_mapn, w_appc, w_appn, w_repc, w_repn, w_start, w_lenc, w_ifT, w_ifF, w_ifFF, w_ifTF, w_nT, w_nF, w_anyT, w_anyF, w_d22, ifSome_some, ifLst_lst, ifTup_tup, ifInt_int, lget, lset, lsets, Nat.reduceSub, Nat.reduceAdd, List.length_nil, ↓reduceIte]
    refine topC_c (by decide) (s_number (by decide) h0 fun H' x hH hx => ?_)
    refine topC_c (by decide) (s_cell rfl (by decide) (getKeep hH h0) ⟨by decide, by decide, by decide, by decide, ?_⟩)
    have c0 := Int.fmod_nonneg_of_pos (cellI ns (6 : Int).toNat) (b := 10 ^ (30 : Int).toNat) (by decide)
    have cs : Sm 100 ((cellI ns (6 : Int).toNat).fmod (10 ^ (30 : Int).toNat)) := fmod_sm (by decide) (by decide)
    have cb := Sm.add (Sm.one (k := 99)) cs
    revert c0 cb
    generalize (cellI ns (6 : Int).toNat).fmod (10 ^ (30 : Int).toNat) = c
    intro c0 cb
    have hb0 : (0 : Int) < 1 + c := by omega
    refine topC_c (by decide) (s_lpart (Int.ne_of_gt hb0) (cb.mono (by decide)) ?_)
    have hd1 : ((x.gcd (1 + c) : Nat) : Int) ∣ x := Int.gcd_dvd_left x (1 + c)
    have hd2 : ((x.gcd (1 + c) : Nat) : Int) ∣ 1 + c := Int.gcd_dvd_right x (1 + c)
    have e1 := Int.fdiv_mul_cancel hd1
    have e2 := Int.fdiv_mul_cancel hd2
    have L := low_of hx (cb.mono (show 101 ≤ 110 by decide)) hb0 e1 e2
    dsimp only [t_law_1, wpS, wpE, wpEs, wpAll, wpO, wpI, w_add, w_addl, w_sub, w_mul, w_mull, w_fdiv, w_mod, w_pow, w_lt, w_le, w_gt, w_ge, w_eq, w_ne, w_eqt, w_eql, w_net, w_nel, w_isn, w_ist, w_isi, w_isl, w_abs, w_lent, w_lenl, w_intb, w_list, w_tuple, w_min, w_idxt0, w_idxt1, w_idxu0, w_idxu1, w_idxu2, w_idxl, w_slcl, w_slct, w_tb, w_ti, w_tn, w_tt, w_tl, w_itt, w_itl, w_bindT1, w_bindT2, w_srcl, w_srct, w_cut2, w_cut1, w_cut1', w_cut0, w_ty1, w_ty2, w_ty3, w_ty4, w_ty5, w_ty6, w_ty7, w_ty8, w_ty9, w_ty10, w_ty11, w_ty12, w_ty13, w_ty14, w_ty15, w_ty16, w_ty17, w_ty18, w_ty19, w_ty20, w_ty21, w_mapc, w_mapn, w_appc, w_appn, w_repc, w_repn, w_start, w_lenc, w_ifT, w_ifF, w_ifFF, w_ifTF, w_nT, w_nF, w_anyT, w_anyF, w_d22, ifSome_some, ifLst_lst, ifTup_tup, ifInt_int, lget, lset, lsets, Nat.reduceSub, Nat.reduceAdd, List.length_nil, ↓reduceIte]
    exact topC_c (by decide) (s_met (hp.mono (by decide)) (hq.mono (by decide)) (L.top.mono (by decide)) (L.bot.mono (by decide)) hq0 L.pos rfl)
theorem tail4 {H : Hp} {ns : List Int} {a b : Int} {o1 o2 : Option V} (h0 : H[0]? = some (ns.map .int)) (ha : Sm 110 a) (hb : Sm 110 b) (hb0 : b ≠ 0) :
    F t_law_4 [some (.lst 0), some (.int a), some (.int b), o1, o2] H := by
  unfold F
  dsimp only [t_law_4, wpS, wpE, wpEs, wpAll, wpO, wpI, w_add, w_addl, w_sub, w_mul, w_mull, w_fdiv, w_mod, w_pow, w_lt, w_le, w_gt, w_ge, w_eq, w_ne, w_eqt, w_eql, w_net, w_nel, w_isn, w_ist, w_isi, w_isl, w_abs, w_lent, w_lenl, w_intb, w_list, w_tuple, w_min, w_idxt0, w_idxt1, w_idxu0, w_idxu1, w_idxu2, w_idxl, w_slcl, w_slct, w_tb, w_ti, w_tn, w_tt, w_tl, w_itt, w_itl, w_bindT1, w_bindT2, w_srcl, w_srct, w_cut2, w_cut1, w_cut1', w_cut0, w_ty1, w_ty2, w_ty3, w_ty4, w_ty5, w_ty6, w_ty7, w_ty8, w_ty9, w_ty10, w_ty11, w_ty12, w_ty13, w_ty14, w_ty15, w_ty16, w_ty17, w_ty18, w_ty19, w_ty20, w_ty21, w_mapc, w_mapn, w_appc, w_appn, w_repc, w_repn, w_start, w_lenc, w_ifT, w_ifF, w_ifFF, w_ifTF, w_nT, w_nF, w_anyT, w_anyF, w_d22, ifSome_some, ifLst_lst, ifTup_tup, ifInt_int, lget, lset, lsets, Nat.reduceSub, Nat.reduceAdd, List.length_nil, ↓reduceIte]
  refine topC_c (by decide) (s_ppart hb0 (hb.mono (by decide)) fun g hg => ?_)
  have hgn : g.natAbs = a.gcd b := by rw [hg]; split <;> omega
  have hpos : 0 < a.gcd b := Int.gcd_pos_of_ne_zero_right a hb0
  have hd1 : g ∣ a := Int.natAbs_dvd_natAbs.mp (by rw [hgn]; exact Int.natAbs_dvd_natAbs.mpr (Int.gcd_dvd_left a b))
  have hd2 : g ∣ b := Int.natAbs_dvd_natAbs.mp (by rw [hgn]; exact Int.natAbs_dvd_natAbs.mpr (Int.gcd_dvd_right a b))
  have e1 := Int.fdiv_mul_cancel hd1
  have e2 := Int.fdiv_mul_cancel hd2
  have hq : 0 < b.fdiv g := by
    by_cases h : b < 0
    · rw [if_pos h] at hg
      have hg0 : g < 0 := by omega
      exact Int.not_le.mp fun hle => by
        have := Int.mul_nonneg_of_nonpos_of_nonpos hle (Int.le_of_lt hg0)
        rw [e2] at this; omega
    · rw [if_neg h] at hg
      have hg0 : 0 < g := by omega
      exact Int.pos_of_mul_pos_left (by rw [e2]; omega) hg0
  obtain ⟨s1, s2, s3, s4⟩ := low_sm hb0 hgn e1 e2 ha hb
  generalize a.fdiv g = p at *
  generalize b.fdiv g = q at *
  dsimp only [wpS, wpE, wpEs, wpAll, wpO, wpI, w_add, w_addl, w_sub, w_mul, w_mull, w_fdiv, w_mod, w_pow, w_lt, w_le, w_gt, w_ge, w_eq, w_ne, w_eqt, w_eql, w_net, w_nel, w_isn, w_ist, w_isi, w_isl, w_abs, w_lent, w_lenl, w_intb, w_list, w_tuple, w_min, w_idxt0, w_idxt1, w_idxu0, w_idxu1, w_idxu2, w_idxl, w_slcl, w_slct, w_tb, w_ti, w_tn, w_tt, w_tl, w_itt, w_itl, w_bindT1, w_bindT2, w_srcl, w_srct, w_cut2, w_cut1, w_cut1', w_cut0, w_ty1, w_ty2, w_ty3, w_ty4, w_ty5, w_ty6, w_ty7, w_ty8, w_ty9, w_ty10, w_ty11, w_ty12, w_ty13, w_ty14, w_ty15, w_ty16, w_ty17, w_ty18, w_ty19, w_ty20, w_ty21, w_mapc, w_mapn, w_appc, w_appn, w_repc, w_repn, w_start, w_lenc, w_ifT, w_ifF, w_ifFF, w_ifTF, w_nT, w_nF, w_anyT, w_anyF, w_d22, ifSome_some, ifLst_lst, ifTup_tup, ifInt_int, lget, lset, lsets, Nat.reduceSub, Nat.reduceAdd, List.length_nil, ↓reduceIte]
  refine topC_c (by decide) (s_whole rfl ?_)
  refine topC_c (by decide) (s_whole rfl ?_)
  dsimp only [wpS, wpE, wpEs, wpAll, wpO, wpI, w_add, w_addl, w_sub, w_mul, w_mull, w_fdiv, w_mod, w_pow, w_lt, w_le, w_gt, w_ge, w_eq, w_ne, w_eqt, w_eql, w_net, w_nel, w_isn, w_ist, w_isi, w_isl, w_abs, w_lent, w_lenl, w_intb, w_list, w_tuple, w_min, w_idxt0, w_idxt1, w_idxu0, w_idxu1, w_idxu2, w_idxl, w_slcl, w_slct, w_tb, w_ti, w_tn, w_tt, w_tl, w_itt, w_itl, w_bindT1, w_bindT2, w_srcl, w_srct, w_cut2, w_cut1, w_cut1', w_cut0, w_ty1, w_ty2, w_ty3, w_ty4, w_ty5, w_ty6, w_ty7, w_ty8, w_ty9, w_ty10, w_ty11, w_ty12, w_ty13, w_ty14, w_ty15, w_ty16, w_ty17, w_ty18, w_ty19, w_ty20, w_ty21, w_mapc, w_mapn, w_appc, w_appn, w_repc, w_repn, w_start, w_lenc, w_ifT, w_ifF, w_ifFF, w_ifTF, w_nT, w_nF, w_anyT, w_anyF, w_d22, ifSome_some, ifLst_lst, ifTup_tup, ifInt_int, lget, lset, lsets, Nat.reduceSub, Nat.reduceAdd, List.length_nil, ↓reduceIte, t_law_3]
  have hq1 : ¬ q < 1 := by omega
  rw [decide_eq_false hq1]
  dsimp only [wpS, wpE, wpEs, wpAll, wpO, wpI, w_add, w_addl, w_sub, w_mul, w_mull, w_fdiv, w_mod, w_pow, w_lt, w_le, w_gt, w_ge, w_eq, w_ne, w_eqt, w_eql, w_net, w_nel, w_isn, w_ist, w_isi, w_isl, w_abs, w_lent, w_lenl, w_intb, w_list, w_tuple, w_min, w_idxt0, w_idxt1, w_idxu0, w_idxu1, w_idxu2, w_idxl, w_slcl, w_slct, w_tb, w_ti, w_tn, w_tt, w_tl, w_itt, w_itl, w_bindT1, w_bindT2, w_srcl, w_srct, w_cut2, w_cut1, w_cut1', w_cut0, w_ty1, w_ty2, w_ty3, w_ty4, w_ty5, w_ty6, w_ty7, w_ty8, w_ty9, w_ty10, w_ty11, w_ty12, w_ty13, w_ty14, w_ty15, w_ty16, w_ty17, w_ty18, w_ty19, w_ty20, w_ty21, w_mapc, w_mapn, w_appc, w_appn, w_repc, w_repn, w_start, w_lenc, w_ifT, w_ifF, w_ifFF, w_ifTF, w_nT, w_nF, w_anyT, w_anyF, w_d22, ifSome_some, ifLst_lst, ifTup_tup, ifInt_int, lget, lset, lsets, Nat.reduceSub, Nat.reduceAdd, List.length_nil, ↓reduceIte]
  refine ⟨IntMulOk.sm s1 hb (by decide) (by decide), IntMulOk.sm ha s2 (by decide) (by decide), ?_⟩
  rw [decide_eq_true s4]
  dsimp only [wpS, wpE, wpEs, wpAll, wpO, wpI, w_add, w_addl, w_sub, w_mul, w_mull, w_fdiv, w_mod, w_pow, w_lt, w_le, w_gt, w_ge, w_eq, w_ne, w_eqt, w_eql, w_net, w_nel, w_isn, w_ist, w_isi, w_isl, w_abs, w_lent, w_lenl, w_intb, w_list, w_tuple, w_min, w_idxt0, w_idxt1, w_idxu0, w_idxu1, w_idxu2, w_idxl, w_slcl, w_slct, w_tb, w_ti, w_tn, w_tt, w_tl, w_itt, w_itl, w_bindT1, w_bindT2, w_srcl, w_srct, w_cut2, w_cut1, w_cut1', w_cut0, w_ty1, w_ty2, w_ty3, w_ty4, w_ty5, w_ty6, w_ty7, w_ty8, w_ty9, w_ty10, w_ty11, w_ty12, w_ty13, w_ty14, w_ty15, w_ty16, w_ty17, w_ty18, w_ty19, w_ty20, w_ty21, w_mapc, w_mapn, w_appc, w_appn, w_repc, w_repn, w_start, w_lenc, w_ifT, w_ifF, w_ifFF, w_ifTF, w_nT, w_nF, w_anyT, w_anyF, w_d22, ifSome_some, ifLst_lst, ifTup_tup, ifInt_int, lget, lset, lsets, Nat.reduceSub, Nat.reduceAdd, List.length_nil, ↓reduceIte]
  refine topC_c (by decide) (s_div rfl ?_)
  rw [s3]
  dsimp only [wpS, wpE, wpEs, wpAll, wpO, wpI, w_add, w_addl, w_sub, w_mul, w_mull, w_fdiv, w_mod, w_pow, w_lt, w_le, w_gt, w_ge, w_eq, w_ne, w_eqt, w_eql, w_net, w_nel, w_isn, w_ist, w_isi, w_isl, w_abs, w_lent, w_lenl, w_intb, w_list, w_tuple, w_min, w_idxt0, w_idxt1, w_idxu0, w_idxu1, w_idxu2, w_idxl, w_slcl, w_slct, w_tb, w_ti, w_tn, w_tt, w_tl, w_itt, w_itl, w_bindT1, w_bindT2, w_srcl, w_srct, w_cut2, w_cut1, w_cut1', w_cut0, w_ty1, w_ty2, w_ty3, w_ty4, w_ty5, w_ty6, w_ty7, w_ty8, w_ty9, w_ty10, w_ty11, w_ty12, w_ty13, w_ty14, w_ty15, w_ty16, w_ty17, w_ty18, w_ty19, w_ty20, w_ty21, w_mapc, w_mapn, w_appc, w_appn, w_repc, w_repn, w_start, w_lenc, w_ifT, w_ifF, w_ifFF, w_ifTF, w_nT, w_nF, w_anyT, w_anyF, w_d22, ifSome_some, ifLst_lst, ifTup_tup, ifInt_int, lget, lset, lsets, Nat.reduceSub, Nat.reduceAdd, List.length_nil, ↓reduceIte]
  exact tail2 h0 s1 s2 hq
theorem spec (ns : List Int) (h : ns.length ≤ 63) : F b_law (startLoc 1 5 [.lst 0]) [ns.map .int] := by
  unfold F
  dsimp only [b_law, wpS, wpE, wpEs, wpAll, wpO, wpI, w_add, w_addl, w_sub, w_mul, w_mull, w_fdiv, w_mod, w_pow, w_lt, w_le, w_gt, w_ge, w_eq, w_ne, w_eqt, w_eql, w_net, w_nel, w_isn, w_ist, w_isi, w_isl, w_abs, w_lent, w_lenl, w_intb, w_list, w_tuple, w_min, w_idxt0, w_idxt1, w_idxu0, w_idxu1, w_idxu2, w_idxl, w_slcl, w_slct, w_tb, w_ti, w_tn, w_tt, w_tl, w_itt, w_itl, w_bindT1, w_bindT2, w_srcl, w_srct, w_cut2, w_cut1, w_cut1', w_cut0, w_ty1, w_ty2, w_ty3, w_ty4, w_ty5, w_ty6, w_ty7, w_ty8, w_ty9, w_ty10, w_ty11, w_ty12, w_ty13, w_ty14, w_ty15, w_ty16, w_ty17, w_ty18, w_ty19, w_ty20, w_ty21, w_mapc, w_mapn, w_appc, w_appn, w_repc, w_repn, w_start, w_lenc, w_ifT, w_ifF, w_ifFF, w_ifTF, w_nT, w_nF, w_anyT, w_anyF, w_d22, ifSome_some, ifLst_lst, ifTup_tup, ifInt_int, lget, lset, lsets, Nat.reduceSub, Nat.reduceAdd, List.length_nil, ↓reduceIte]
  refine topC_c (by decide) (s_number (ns := ns) (by decide) rfl fun H1 a hp1 ha => ?_)
  have h01 : H1[0]? = some (ns.map .int) := getKeep hp1 rfl
  refine topC_c (by decide) (s_number (ns := ns) (by decide) h01 fun H2 b hp2 hb => ?_)
  have h02 : H2[0]? = some (ns.map .int) := getKeep hp2 h01
  refine topC_c (by decide) (s_cell rfl (by decide) h02 ⟨by decide, ?_⟩)
  dsimp only [wpS, wpE, wpEs, wpAll, wpO, wpI, w_add, w_addl, w_sub, w_mul, w_mull, w_fdiv, w_mod, w_pow, w_lt, w_le, w_gt, w_ge, w_eq, w_ne, w_eqt, w_eql, w_net, w_nel, w_isn, w_ist, w_isi, w_isl, w_abs, w_lent, w_lenl, w_intb, w_list, w_tuple, w_min, w_idxt0, w_idxt1, w_idxu0, w_idxu1, w_idxu2, w_idxl, w_slcl, w_slct, w_tb, w_ti, w_tn, w_tt, w_tl, w_itt, w_itl, w_bindT1, w_bindT2, w_srcl, w_srct, w_cut2, w_cut1, w_cut1', w_cut0, w_ty1, w_ty2, w_ty3, w_ty4, w_ty5, w_ty6, w_ty7, w_ty8, w_ty9, w_ty10, w_ty11, w_ty12, w_ty13, w_ty14, w_ty15, w_ty16, w_ty17, w_ty18, w_ty19, w_ty20, w_ty21, w_mapc, w_mapn, w_appc, w_appn, w_repc, w_repn, w_start, w_lenc, w_ifT, w_ifF, w_ifFF, w_ifTF, w_nT, w_nF, w_anyT, w_anyF, w_d22, ifSome_some, ifLst_lst, ifTup_tup, ifInt_int, lget, lset, lsets, Nat.reduceSub, Nat.reduceAdd, List.length_nil, ↓reduceIte]
  by_cases h1 : (cellI ns (4 : Int).toNat).fmod 8 = 1
  · rw [decide_eq_true h1]
    exact topC_t (k := 9) ⟨rfl, a, rfl, rfl⟩
  · rw [decide_eq_false h1]
    dsimp only [wpS, wpE, wpEs, wpAll, wpO, wpI, w_add, w_addl, w_sub, w_mul, w_mull, w_fdiv, w_mod, w_pow, w_lt, w_le, w_gt, w_ge, w_eq, w_ne, w_eqt, w_eql, w_net, w_nel, w_isn, w_ist, w_isi, w_isl, w_abs, w_lent, w_lenl, w_intb, w_list, w_tuple, w_min, w_idxt0, w_idxt1, w_idxu0, w_idxu1, w_idxu2, w_idxl, w_slcl, w_slct, w_tb, w_ti, w_tn, w_tt, w_tl, w_itt, w_itl, w_bindT1, w_bindT2, w_srcl, w_srct, w_cut2, w_cut1, w_cut1', w_cut0, w_ty1, w_ty2, w_ty3, w_ty4, w_ty5, w_ty6, w_ty7, w_ty8, w_ty9, w_ty10, w_ty11, w_ty12, w_ty13, w_ty14, w_ty15, w_ty16, w_ty17, w_ty18, w_ty19, w_ty20, w_ty21, w_mapc, w_mapn, w_appc, w_appn, w_repc, w_repn, w_start, w_lenc, w_ifT, w_ifF, w_ifFF, w_ifTF, w_nT, w_nF, w_anyT, w_anyF, w_d22, ifSome_some, ifLst_lst, ifTup_tup, ifInt_int, lget, lset, lsets, Nat.reduceSub, Nat.reduceAdd, List.length_nil, ↓reduceIte]
    by_cases h2 : b = 0
    · rw [decide_eq_true h2]
      exact topC_t (k := 9) ⟨rfl, a, rfl, rfl⟩
    · rw [decide_eq_false h2]
      exact tail4 h02 ha hb h2
end L01
end Mine

open PySem PyProof.Rows PySem.Calls PySem.W
set_option Elab.async false
set_option maxRecDepth 100000
set_option maxHeartbeats 8000000
local macro_rules | `(tactic| walk_at "call builtin:isinstance") => `(tactic| (k_here; (with_reducible show wpAny _ _ (call _ [Value.ref _, Value.ref _]) _ _ _); k_dflt (refine' kia_tup (Mine.kitx_exc ?k5 ?k6 ?k7 ?k8 ?k9) ?X ?I ?p ?ee ?nb ?_; (case p => kit_tp); (case X => k_in); (case I => exact Mine.excAt_N (by k_asm) (by k_mem) (by assumption)); (case ee => kit_is); (case nb => kit_nb); (case k5 => k_is); (case k6 => k_is); (case k7 => k_is); (case k8 => k_is); (case k9 => k_is); k_whole; intro _)))
local macro_rules | `(tactic| walk_at "call builtin:isinstance") => `(tactic| (k_here; (with_reducible show wpAny _ _ (call _ [Value.ref _, _]) _ _ _); k_dflt (refine' kia_one (Mine.kitx_exc ?k5 ?k6 ?k7 ?k8 ?k9) ?X ?I ?ee ?nb ?_; (case X => k_in); (case I => exact Mine.excAt_N (by k_asm) (by k_mem) (by assumption)); (case ee => kit_is); (case nb => kit_nb); (case k5 => k_is); (case k6 => k_is); (case k7 => k_is); (case k8 => k_is); (case k9 => k_is); k_whole; intro _)))
namespace Mine
open_top hd01 for PySem.Challenge.rw_uf020007_01
noncomputable def L01.lawDef : DefT := match ((recsOf Mine.hd01.view_39).map toDef)[13]? with | some d => d | none => ⟨default, default, [], default⟩
end Mine
theorem PySem.Challenge.cw_uf020007_01_holds : PySem.Challenge.rw_uf020007_01.Holds := by
  w_on
  refine Mine.hd01 ?_
  k_fill
  intro w s₀ s₁ mg mb G Y fa o pm cd doc dV kV ho hd hcd hD hmg hg args vals as hpre hlay hrd hwl hlo
  have KX := kIn_of Y
  refine Ground.open G ?_
  intro T B D TE TW
  have key : ∀ (s : Shared) (m : Str → Option Value) (t : Int) (tk : Tok) (Q : Value → Shared → Prop) (E : Value → Shared → Prop) (fb : Addr) (cd : Value) (news : List (Addr × Obj)), Fr s₁.heap s₁.heap.objs.size s.heap m → News s₁.heap s₁.heap.objs.size s.heap news →
      (∀ h' tk' news', Fr s₁.heap s₁.heap.objs.size h' m → News s₁.heap s₁.heap.objs.size h' news' → (∀ q ∈ news, q ∈ news') → Q (.bool true) { s with heap := h', toks := tk' }) →
      wpAny (model rw_uf020007_01.row.prog w) (callerA.deeper (envOf (Str.ofString "law") Mine.L01.lawDef.scope s₁.heap.objs.size fb cd)) (call (.ref 157) [.int t tk]) Q E s := by
    intro s m t tk Q E fb cd news F N hQ
    have K0 := below_caller s₁.heap
    obtain ⟨_, _, M⟩ := bmod_of_top T
    clear ho hd hcd hD hmg hpre hlay hrd hwl hlo B D TE TW
    w_top on
    have hD : KtsDicts (([] : List Env).filterMap (·.frame)) s₁.heap := ktsDicts_nil
    refine wpAny_call ?_
    k_dflt (refine' code_defS0 ?k1 ?k2 ?k3 ?k4 ?k5 ?kA ?k6 ?k7 ?k8 ?k9 ?kB ?_ ?cK ?c2 ?c3 ?c4 ?c5; (case kA => exact rfl); (case k2 => k_asm); (case k1 => k_asm); (case k3 => k_asm); (case k4 => k_asm); (case k5 => k_asm); (case k6 => k_is); (case k7 => k_is); (case k8 => k_room); (case k9 => first | exact binds_K (by k_in) rfl (by k_is) rfl rfl rfl | exact BindsTo.of_eq rfl | fail "kts_go: no rule for these arguments"); (case kB => exact locs rfl); (case cK => exact rfl); (case c2 => exact rfl); (case c3 => exact rfl); (case c4 => exact rfl); (case c5 => decide); k_whole; intro g' L' h' FG' F' N' B' X' T' D'; (try dsimp only); (try k_lift B'); (try k_fold))
    iterate 35 (first | (k_unfold; (try dsimp only)) | walk1 | (dsimp only; walk1))
    k_dflt (refine' hit_SB ?R ?F ?K ?U ?XB ?TB ?D ?T0 ?T ?_; (case R => assumption); (case F => assumption); (case K => assumption); (case U => assumption); (case XB => assumption); (case TB => assumption); (case D => assumption); (case T0 => first | assumption | exact KtsTurn.refl); (case T => kts_test); k_whole)
    intro h2 g2 n2 tk2 T2 F2 N2 G2 N3 K2 X2 P2 D2
    obtain ⟨oe, ot, ws, nt, m1, m2, ec, ed, e0, tc, td⟩ := G2
    have N4 := Mine.news_cons N3 (N2 _ m1)
    clear N2 N3 m1 m2 tc td e0
    (try k_lift K2)
    (try k_sweep)
    k_steps
    exact hQ _ _ _ (by assumption) (by assumption) (fun q hq => by first | exact hq | exact List.Mem.tail _ hq | exact List.Mem.tail _ (List.Mem.tail _ hq) | exact List.Mem.tail _ (List.Mem.tail _ (List.Mem.tail _ hq)))
  have e9 : nsIn (Mine.hd01.heap_39 w.params) mainGlobals (Str.ofString "_law_refused") = some (some (.ref 157)) := by k_is
  have m9 := mg_of KX T.g e9
  wrow_args hpre hlay hrd hwl hlo
  all_goals (
    first | refine callC_kw (enter_call ?_) | refine enter_call ?_ | refine callC_kw (enter_callW ?_) | refine enter_callW ?_ | w_how
    w_top on
    try refine codeAny_mono ?_ (fun _ _ g => GoodW.toG g)
    rename_i hL hlay1 _ _ _ _ _ _ _ hLs _ _ _ hI _ hcond _
    refine Mine.run_lawT (gc := ⟨Mine.L01.fnNames, [], []⟩) (P := Mine.L01.fnTab) (VT := Mine.L01.varTab) (sub := Mine.L01.nosub) (k := 13) (n := 4) (x := "law") (Ψ := Mine.L01.Psi)
      (Mine.gf_plain (gc := ⟨Mine.L01.fnNames, [], []⟩) T (by decide +kernel) rfl rfl (by decide +kernel)) (by decide +kernel) (by decide +kernel) (by decide) hLs hI (by omega) (by decide +kernel) hmg (by decide) (fd := ⟨1, 5, Mine.L01.b_law⟩) rfl rfl ?_ (Mine.L01.spec _ (by omega)) ?_
    · intro d vn cd hd13
      have hdd : d = Mine.L01.lawDef := (Option.some.inj ((show ((recsOf Mine.hd01.view_39).map Mine.toDef)[13]? = some Mine.L01.lawDef from rfl).symm.trans hd13)).symm
      subst hdd
      refine Mine.stry_of (fun k vs H Q hq s α vals E m news Z F N R r hZ => ?_) (Nat.le_refl _)
      rcases hq with ⟨hq, _⟩ | ⟨_, hq⟩
      · exact absurd hq (by omega)
      · rw [Nat.add_sub_cancel] at hq
        obtain ⟨rfl, t, rfl, hq⟩ := hq
        obtain ⟨v, rfl, rv⟩ := r.one_inv
        obtain ⟨tk, rfl⟩ := rv.int_inv
        have hfa : Mine.fnAddr mg Mine.L01.fnNames 9 = 157 := by
          show (match mg (Str.ofString "_law_refused") with | some (.ref a) => a | _ => 0) = 157
          rw [m9]
        show wpAny _ _ (call (.ref (Mine.fnAddr mg Mine.L01.fnNames 9)) _) _ _ _
        rw [hfa]
        exact key s m t tk Z E _ cd news F N fun h' tk' news' F' N' sb => hZ (.bool true) (.bool true) h' tk' news' F' N' sb (fun _ _ => .bool true) hq
    · intro h' tk kp
      exact ⟨.inl ⟨_, .bool true, [], rfl, by intro cls; rfl, .bool true, (by first | rfl | exact postW_of rfl rfl (by decide +kernel)), unshared_nil⟩, kp, rfl, hg⟩)

