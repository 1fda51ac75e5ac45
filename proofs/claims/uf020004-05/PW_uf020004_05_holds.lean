import PyProof.Rows.All
import Wide.All
import OpenK.AllK
import Wide.FinOn
import PySem.Challenge.RW_uf020004_05
set_option autoImplicit false
set_option Elab.async false
set_option linter.unusedSimpArgs false
set_option linter.unusedVariables false
namespace Mine

/-- abstract values: frozen data by value, live mutable objects by number -/
inductive V where
  | undef
  | none
  | bool (b : Bool)
  | int (i : Int)
  | str (s : List Nat)
  | tup (xs : List V)
  | lst (xs : List V)
  | ref (i : Nat)
  | exc (c : Nat)

inductive Cell where
  | lst (xs : List V)
  | dictI (ks : List Int)
  | dictP (ks : List (List Int))
  | dead

abbrev Sg := List Cell
abbrev Fm := List V

inductive Res (α : Type) where
  | ok (a : α) (s : Sg)
  | ex (c : Nat) (s : Sg)
  | bad

noncomputable def Res.bind {α β : Type} : Res α → (α → Sg → Res β) → Res β
  | .ok a s, f => f a s
  | .ex c s, _ => .ex c s
  | .bad, _ => .bad

theorem bind_ok {α β : Type} (a : α) (s : Sg) (f : α → Sg → Res β) : (Res.ok a s).bind f = f a s := rfl
theorem bind_eq_ok {α β : Type} {r : Res α} {f : α → Sg → Res β} {b : β} {s' : Sg} (h : r.bind f = .ok b s') :
    ∃ a s, r = .ok a s ∧ f a s = .ok b s' := by
  cases r with
  | ok a s => exact ⟨a, s, rfl, h⟩
  | ex c s => cases h
  | bad => cases h

noncomputable def Res.of {α : Type} (o : Option α) (s : Sg) : Res α := match o with | some a => .ok a s | none => .bad
theorem of_some {α : Type} (a : α) (s : Sg) : Res.of (some a) s = .ok a s := rfl
theorem of_eq_ok {α : Type} {o : Option α} {s s' : Sg} {a : α} (h : Res.of o s = .ok a s') : o = some a ∧ s = s' := by
  cases o with
  | none => cases h
  | some b => cases h; exact ⟨rfl, rfl⟩

theorem bind_of_ok {α β : Type} {o : Option α} {s s' : Sg} {f : α → Sg → Res β} {b : β} (h : (Res.of o s).bind f = .ok b s') : ∃ a, o = some a ∧ f a s = .ok b s' := by
  cases o with
  | none => cases h
  | some a => exact ⟨a, rfl, h⟩

set_option genSizeOf false in
set_option genInjectivity false in
inductive Bop where | add | sub | mul | fdiv | mod
set_option genSizeOf false in
set_option genInjectivity false in
inductive Cop where | eq | ne | lt | le | gt | ge | isin | notin | is | isnot
set_option genSizeOf false in
set_option genInjectivity false in
inductive IK where | val | rng1 | rng2 | rev
set_option genSizeOf false in
set_option genInjectivity false in
inductive Bi where
  | len | isBool | isInt | isStr | isTup | isLst | sum | all | any | max1 | max2 | min2 | tuple | list | int
  | isExc (c : Nat)

set_option genSizeOf false in
set_option genInjectivity false in
inductive Ex where
  | cNone
  | cBool (b : Bool)
  | cInt (i : Int)
  | cStr (s : List Nat)
  | var (i : Nat)
  | glob (g : Nat)
  | and (a b : Ex)
  | or (a b : Ex)
  | not (a : Ex)
  | neg (a : Ex)
  | bin (op : Bop) (l r : Ex)
  | cmp (op : Cop) (l r : Ex)
  | cmp2 (o1 o2 : Cop) (a b c : Ex)
  | ite (c a b : Ex)
  | tup (es : List Ex)
  | lst (m : Bool) (es : List Ex)
  | dict (p : Bool)
  | comp (m : Bool) (elt : Ex) (ik : IK) (a b : Ex) (cond : Option Ex)
  | call (f : Nat) (args : List Ex)
  | bi (b : Bi) (args : List Ex)
  | app (o x : Ex)
  | pop (o : Ex)
  | clear (o : Ex)
  | rvs (o : Ex)
  | join (sep l : Ex)
  | idx (e i : Ex)
  | slice (e : Ex) (lo hi : Option Ex)
  | frz (e : Ex)

set_option genSizeOf false in
set_option genInjectivity false in
inductive St where
  | expr (e : Ex)
  | ret (e : Ex)
  | asg (i : Nat) (e : Ex)
  | sto (o i e : Ex)
  | ite (c : Ex) (a b : List St)
  | while (c : Ex) (b : List St)
  | for (i : Nat) (ik : IK) (a b : Ex) (body : List St)
  | raise (c : Nat)
  | try (body : List St) (hs : List (Nat × Option Nat × List St))

inductive Fl where
  | next
  | ret (v : V)

/-! ### operations -/
noncomputable def nIdx (i : Int) (n : Nat) : Option Nat :=
  if 0 ≤ i then (if i < (n : Int) then some i.toNat else none)
  else if 0 ≤ i + (n : Int) then some (i + (n : Int)).toNat else none

noncomputable def clamp (i : Int) (n : Nat) : Nat := if i < 0 then (i + (n : Int)).toNat else min i.toNat n

noncomputable def loOf (lo : Option Int) (n : Nat) : Nat := match lo with | some i => clamp i n | none => 0
noncomputable def hiOf (hi : Option Int) (n : Nat) : Nat := match hi with | some i => clamp i n | none => n
noncomputable def cut {α : Type} (xs : List α) (lo hi : Option Int) : List α := (xs.take (hiOf hi xs.length)).drop (loOf lo xs.length)

noncomputable def getL (σ : Sg) : V → Option (List V)
  | .lst xs => some xs
  | .ref i => match σ[i]? with | some (.lst xs) => some xs | _ => none
  | _ => none

noncomputable def getSeq (σ : Sg) : V → Option (List V)
  | .tup xs => some xs
  | .str s => some (s.map fun c => .str [c])
  | v => getL σ v

/-- signs that a text may bear where it is compared within data -/
noncomputable def strFine (s : List Nat) : Bool := s.all (fun c => c < 1114112)
mutual
/-- plain data, not deeper than n -/
noncomputable def plain : Nat → V → Bool
  | _, .none => true
  | _, .bool _ => true
  | _, .int _ => true
  | _, .str s => strFine s
  | n + 1, .lst xs => plains n xs
  | n + 1, .tup xs => plains n xs
  | _, _ => false
noncomputable def plains : Nat → List V → Bool
  | _, [] => true
  | n, x :: xs => plain n x && plains n xs
end

/-- data of other shapes -/
noncomputable def vEqG (_ : Sg) (_ _ : V) : Option Bool := none
noncomputable def vEq (σ : Sg) (a b : V) : Option Bool := match a with
  | .none => (match b with | .none => some true | b => vEqG σ .none b)
  | .bool x => (match b with | .bool y => some (x == y) | b => vEqG σ (.bool x) b)
  | .int x => (match b with | .int y => some (x == y) | b => vEqG σ (.int x) b)
  | .str x => (match b with | .str y => some (x == y) | b => vEqG σ (.str x) b)
  | a => vEqG σ a b

noncomputable def vTrue (σ : Sg) : V → Option Bool
  | .none => some false
  | .bool b => some b
  | .int i => some (i != 0)
  | .str s => some (!s.isEmpty)
  | .lst xs => some (!xs.isEmpty)
  | .ref i => match σ[i]? with | some (.lst xs) => some (!xs.isEmpty) | _ => none
  | _ => none

noncomputable def intsV : List V → Option (List Int)
  | [] => some []
  | .int i :: r => (intsV r).map (i :: ·)
  | _ :: _ => none
noncomputable def boolsV : List V → Option (List Bool)
  | [] => some []
  | .bool i :: r => (boolsV r).map (i :: ·)
  | _ :: _ => none
noncomputable def strsV : List V → Option (List (List Nat))
  | [] => some []
  | .str i :: r => (strsV r).map (i :: ·)
  | _ :: _ => none

noncomputable def inG (_ : V) (_ : List V) : Option Bool := none
noncomputable def inStrs (s : List Nat) (l : List (List Nat)) : Option Bool := if strFine s && l.all strFine then some (l.any fun y => y == s) else none
noncomputable def inSeq (x : V) (xs : List V) : Option Bool := match x with
  | .str s => (match strsV xs with | some l => inStrs s l | none => inG (.str s) xs)
  | x => inG x xs
noncomputable def inStr (x : V) (b : List Nat) : Option Bool := match x with
  | .str s => (match s with | [c] => some (b.contains c) | _ => none)
  | _ => none
noncomputable def inCell (x : V) : Option Cell → Option Bool
  | some (.dictI ks) => (match x with | .int k => some (decide (k ∈ ks)) | _ => none)
  | some (.dictP ks) => (match x with | .tup xs => (intsV xs).map fun l => decide (l ∈ ks) | _ => none)
  | some (.lst xs) => inSeq x xs
  | _ => none
noncomputable def vIn (σ : Sg) (x c : V) : Option Bool := match c with
  | .str b => inStr x b
  | .ref i => inCell x σ[i]?
  | .lst xs => inSeq x xs
  | .tup xs => inSeq x xs
  | _ => none
/-- of two ints -/
noncomputable def ii {α : Type} (f : Int → Int → Option α) (a b : V) : Option α := match a with
  | .int i => (match b with | .int j => f i j | _ => none)
  | _ => none
theorem ii_some {α : Type} {f : Int → Int → Option α} {a b : V} {x : α} (h : ii f a b = some x) : ∃ i j, a = .int i ∧ b = .int j ∧ f i j = some x := by
  cases a with
  | int i => cases b with
    | int j => exact ⟨i, j, rfl, rfl, h⟩
    | _ => cases h
  | _ => cases h

noncomputable def vCmp (σ : Sg) (op : Cop) (a b : V) : Option Bool :=
  match op with
  | .eq => vEq σ a b
  | .ne => (vEq σ a b).map not
  | .isin => vIn σ a b
  | .notin => none
  | .is => none
  | .isnot => none
  | .lt => ii (fun a b => some (decide (a < b))) a b
  | .le => none
  | .gt => ii (fun a b => some (decide (a > b))) a b
  | .ge => none

noncomputable def roomy : Nat := 16777216
noncomputable def small (i : Int) : Bool := Nat.ble i.natAbs 4611686018427387903

noncomputable def addL (xs ys : List V) : Option V := if xs.length + ys.length ≤ roomy then some (.lst (xs ++ ys)) else none
noncomputable def vAdd (σ : Sg) (a b : V) : Option V := match a with
  | .int i => (match b with | .int j => some (.int (i + j)) | _ => none)
  | .str x => (match b with | .str y => if x.length + y.length ≤ roomy then some (.str (x ++ y)) else none | _ => none)
  | a => (getL σ a).bind fun xs => (getL σ b).bind fun ys => addL xs ys
noncomputable def mulL (xs : List V) (n : Int) : Option V := if xs.length * n.toNat ≤ roomy && small n then some (.lst (List.replicate n.toNat xs).flatten) else none
noncomputable def vMul (σ : Sg) (a b : V) : Option V := match b with
  | .int n => (match a with
    | .int i => if small i || small n then some (.int (i * n)) else none
    | .str x => if x.length * n.toNat ≤ roomy && small n then some (.str (List.replicate n.toNat x).flatten) else none
    | a => (getL σ a).bind fun xs => mulL xs n)
  | _ => none
noncomputable def vBin (σ : Sg) (op : Bop) (a b : V) : Option V := match op with
  | .add => vAdd σ a b
  | .sub => ii (fun a b => some (.int (a - b))) a b
  | .mul => vMul σ a b
  | .fdiv => ii (fun a b => if small b && b != 0 then some (.int (a.fdiv b)) else none) a b
  | .mod => ii (fun a b => if b != 0 then some (.int (a.fmod b)) else none) a b

noncomputable def vIdx (σ : Sg) (v i : V) : Option V :=
  match i with
  | .int i => if small i then (getSeq σ v).bind fun xs => (nIdx i xs.length).bind fun k => xs[k]? else none
  | _ => none

noncomputable def smallO : Option Int → Bool
  | none => true
  | some i => small i

noncomputable def vCut (σ : Sg) (v : V) (lo hi : Option Int) : Option V :=
  if smallO lo && smallO hi then
    match v with
    | .str s => some (.str (cut s lo hi))
    | .tup xs => if hi.isNone && decide (1 ≤ lo.getD 0 ∧ lo.getD 0 ≤ (xs.length : Int)) then some (.tup (cut xs lo hi)) else none
    | v => (getL σ v).map fun xs => .lst (cut xs lo hi)
  else none

noncomputable def vStore (σ : Sg) (o i x : V) : Option Sg :=
  match o with
  | .ref r => match σ[r]? with
    | some (.lst xs) => match i with
      | .int i => if 0 ≤ i ∧ i < (xs.length : Int) then some (σ.set r (.lst (xs.set i.toNat x))) else none
      | _ => none
    | some (.dictI ks) => match i, x with
      | .int k, .bool true => if ks.length < roomy then some (σ.set r (.dictI (if k ∈ ks then ks else ks ++ [k]))) else none
      | _, _ => none
    | some (.dictP ks) => match i, x with
      | .tup xs, .bool true => if ks.length < roomy then (intsV xs).map fun k => σ.set r (.dictP (if k ∈ ks then ks else ks ++ [k])) else none
      | _, _ => none
    | _ => none
  | _ => none

noncomputable def vLen (σ : Sg) : V → Option Nat
  | .str s => some s.length
  | .tup xs => some xs.length
  | .lst xs => some xs.length
  | .ref i => match σ[i]? with | some (.lst xs) => some xs.length | some (.dictI ks) => some ks.length | some (.dictP ks) => some ks.length | _ => none
  | _ => none

noncomputable def joinS (sep : List Nat) : List (List Nat) → List Nat
  | [] => []
  | [x] => x
  | x :: r => x ++ sep ++ joinS sep r

/-- which kind of data a value is -/
noncomputable def isaK (n b i s t l : Bool) : V → Option Bool
  | .none => some n
  | .bool _ => some b
  | .int _ => some i
  | .str _ => some s
  | .tup _ => some t
  | .lst _ => some l
  | _ => none
noncomputable def vIsa (b : Bi) (v : V) : Option Bool := match b with
  | .isBool => isaK false true false false false false v
  | .isInt => none
  | .isStr => isaK false false false true false false v
  | .isTup => isaK false false false false true false v
  | .isLst => isaK false false false false false true v
  | .isExc c => (match v with | .exc d => some (c == d || c == 0) | _ => none)
  | _ => none

noncomputable def vMax : List Int → Option V
  | [] => none
  | a :: r => some (.int (r.foldl max a))

noncomputable def intOf : V → Option V
  | .bool b => some (.int (if b then 1 else 0))
  | _ => none
noncomputable def isLstC : Option Cell → Option V
  | some (.lst _) => some (.bool true)
  | _ => none
noncomputable def vBi1 (σ : Sg) (b : Bi) (v : V) : Option V :=
  match b with
  | .len => (vLen σ v).map fun (n : Nat) => V.int (Int.ofNat n)
  | .sum => (getL σ v).bind fun xs => (intsV xs).map fun l => V.int l.sum
  | .all => (getL σ v).bind fun xs => (boolsV xs).map fun l => V.bool (l.all id)
  | .any => (getL σ v).bind fun xs => (boolsV xs).map fun l => V.bool (l.any id)
  | .max1 => (getL σ v).bind fun xs => (intsV xs).bind vMax
  | .tuple => (getL σ v).map V.tup
  | .list => none
  | .int => intOf v
  | .isLst => (match v with | .ref i => isLstC σ[i]? | v => (vIsa .isLst v).map V.bool)
  | b => (vIsa b v).map V.bool
noncomputable def vBi2 (b : Bi) (x y : V) : Option V := match b with
  | .max2 => none
  | .min2 => ii (fun a b => some (.int (min a b))) x y
  | _ => none
noncomputable def vBi (σ : Sg) (b : Bi) (args : List V) : Option V :=
  match args with
  | [v] => vBi1 σ b v
  | [x, y] => vBi2 b x y
  | _ => none

/-- o.append(x), o.pop(), o.clear(), o.reverse() -/
noncomputable def vApp (σ : Sg) (o x : V) : Option Sg :=
  match o with
  | .ref r => match σ[r]? with | some (.lst xs) => if xs.length < roomy then some (σ.set r (.lst (xs ++ [x]))) else none | _ => none
  | _ => none
noncomputable def liveL (σ : Sg) (o : V) : Option Unit :=
  match o with
  | .ref r => match σ[r]? with | some (.lst _) => some () | _ => none
  | _ => none
noncomputable def vPop (σ : Sg) (o : V) : Option (V × Sg) :=
  match o with
  | .ref r => match σ[r]? with
    | some (.lst xs) => (xs.getLast?).map fun x => (x, σ.set r (.lst xs.dropLast))
    | _ => none
  | _ => none
noncomputable def vClear (σ : Sg) (o : V) : Option Sg :=
  match o with
  | .ref r => match σ[r]? with | some (.lst _) => some (σ.set r (.lst [])) | _ => none
  | _ => none
noncomputable def vRvs (σ : Sg) (o : V) : Option Sg :=
  match o with
  | .ref r => match σ[r]? with | some (.lst xs) => some (σ.set r (.lst xs.reverse)) | _ => none
  | _ => none

mutual
noncomputable def freeze (σ : Sg) : V → Option (V × Sg)
  | .ref i => match σ[i]? with | some (.lst xs) => some (.lst xs, σ.set i .dead) | _ => none
  | .tup xs => (freezes σ xs).map fun p => (.tup p.1, p.2)
  | v => some (v, σ)
noncomputable def freezes (σ : Sg) : List V → Option (List V × Sg)
  | [] => some ([], σ)
  | x :: r => (freeze σ x).bind fun p => (freezes p.2 r).map fun q => (p.1 :: q.1, q.2)
end

noncomputable def rangeL (lo hi : Int) : List V := (List.range (hi - lo).toNat).map fun (k : Nat) => .int (lo + k)

/-- the items that a loop goes through -/
noncomputable def itemsV : V → Option (List V)
  | .tup xs => some xs
  | .lst xs => some xs
  | .str s => some (s.map fun c => .str [c])
  | _ => none
noncomputable def vItems (ik : IK) (a b : V) : Option (List V) := match ik with
  | .val => itemsV a
  | .rng1 => (match a with | .int n => if small n then some (rangeL 0 n) else none | _ => none)
  | .rng2 => none
  | .rev => none

/-! ### evaluation -/
abbrev CF := Nat → List V → Sg → Res V

noncomputable def compGo (test : Fm → Sg → Res Bool) (elt : Fm → Sg → Res V) (Γ : Fm) : List V → List V → Sg → Res (List V)
  | [], acc, σ => .ok acc σ
  | x :: r, acc, σ => (test (Γ ++ [x]) σ).bind fun b σ =>
      if b then (elt (Γ ++ [x]) σ).bind fun v σ => compGo test elt Γ r (acc ++ [v]) σ else compGo test elt Γ r acc σ

noncomputable def putL (m : Bool) (xs : List V) (σ : Sg) : Res V :=
  if xs.length ≤ roomy then (if m then .ok (.ref σ.length) (σ ++ [.lst xs]) else .ok (.lst xs) σ) else .bad

noncomputable def asInt : V → Option Int
  | .int i => some i
  | _ => none

noncomputable def Res.st (o : Option Sg) : Res V := match o with | some σ => .ok .none σ | none => .bad
noncomputable def Res.vs (o : Option (V × Sg)) : Res V := match o with | some (v, σ) => .ok v σ | none => .bad
noncomputable def vJoin (σ : Sg) (s l : V) : Option V :=
  match s with
  | .str s => ((getL σ l).bind strsV).bind fun l => if (l.map fun x => x.length + s.length).sum ≤ roomy then some (.str (joinS s l)) else none
  | _ => none
noncomputable def vNeg : V → Option V
  | .int i => some (.int (-i))
  | _ => none
noncomputable def getV (Γ : Fm) (i : Nat) : Option V := match Γ[i]? with | some .undef => none | o => o

mutual
noncomputable def evE (gl : List V) (cf : CF) : Ex → Fm → Sg → Res V
  | .cNone, _, σ => .ok .none σ
  | .cBool b, _, σ => .ok (.bool b) σ
  | .cInt i, _, σ => .ok (.int i) σ
  | .cStr s, _, σ => .ok (.str s) σ
  | .var i, Γ, σ => Res.of (getV Γ i) σ
  | .glob g, _, σ => Res.of gl[g]? σ
  | .and a b, Γ, σ => (evE gl cf a Γ σ).bind fun v σ => (Res.of (vTrue σ v) σ).bind fun t σ => if t then evE gl cf b Γ σ else .ok v σ
  | .or a b, Γ, σ => (evE gl cf a Γ σ).bind fun v σ => (Res.of (vTrue σ v) σ).bind fun t σ => if t then .ok v σ else evE gl cf b Γ σ
  | .not a, Γ, σ => (evE gl cf a Γ σ).bind fun v σ => (Res.of (vTrue σ v) σ).bind fun t σ => .ok (.bool (!t)) σ
  | .neg a, Γ, σ => (evE gl cf a Γ σ).bind fun v σ => Res.of (vNeg v) σ
  | .bin op l r, Γ, σ => (evE gl cf l Γ σ).bind fun a σ => (evE gl cf r Γ σ).bind fun b σ => Res.of (vBin σ op a b) σ
  | .cmp op l r, Γ, σ => (evE gl cf l Γ σ).bind fun a σ => (evE gl cf r Γ σ).bind fun b σ => (Res.of (vCmp σ op a b) σ).bind fun t σ => .ok (.bool t) σ
  | .cmp2 o1 o2 a b c, Γ, σ => (evE gl cf a Γ σ).bind fun x σ => (evE gl cf b Γ σ).bind fun y σ => (Res.of (vCmp σ o1 x y) σ).bind fun t σ =>
      if t then (evE gl cf c Γ σ).bind fun z σ => (Res.of (vCmp σ o2 y z) σ).bind fun u σ => .ok (.bool u) σ else .ok (.bool false) σ
  | .ite c a b, Γ, σ => (evE gl cf c Γ σ).bind fun v σ => (Res.of (vTrue σ v) σ).bind fun t σ => if t then evE gl cf a Γ σ else evE gl cf b Γ σ
  | .tup es, Γ, σ => (evEs gl cf es Γ σ).bind fun vs σ => if vs.length ≤ roomy then .ok (.tup vs) σ else .bad
  | .lst m es, Γ, σ => (evEs gl cf es Γ σ).bind fun vs σ => putL m vs σ
  | .dict p, _, σ => .ok (.ref σ.length) (σ ++ [if p then .dictP [] else .dictI []])
  | .comp m elt ik a b cond, Γ, σ => (evE gl cf a Γ σ).bind fun x σ => (evE gl cf b Γ σ).bind fun y σ => (Res.of (vItems ik x y) σ).bind fun items σ =>
      (compGo (evT gl cf cond) (evE gl cf elt) Γ items [] σ).bind fun vs σ => putL m vs σ
  | .call f args, Γ, σ => (evEs gl cf args Γ σ).bind fun vs σ => cf f vs σ
  | .bi b args, Γ, σ => (evEs gl cf args Γ σ).bind fun vs σ => Res.of (vBi σ b vs) σ
  | .app o x, Γ, σ => (evE gl cf o Γ σ).bind fun ov σ => (Res.of (liveL σ ov) σ).bind fun _ σ => (evE gl cf x Γ σ).bind fun xv σ => Res.st (vApp σ ov xv)
  | .pop o, Γ, σ => (evE gl cf o Γ σ).bind fun ov σ => Res.vs (vPop σ ov)
  | .clear o, Γ, σ => (evE gl cf o Γ σ).bind fun ov σ => Res.st (vClear σ ov)
  | .rvs o, Γ, σ => (evE gl cf o Γ σ).bind fun ov σ => Res.st (vRvs σ ov)
  | .join s l, Γ, σ => (evE gl cf s Γ σ).bind fun sv σ => (evE gl cf l Γ σ).bind fun lv σ => Res.of (vJoin σ sv lv) σ
  | .idx e i, Γ, σ => (evE gl cf e Γ σ).bind fun v σ => (evE gl cf i Γ σ).bind fun j σ => Res.of (vIdx σ v j) σ
  | .slice e lo hi, Γ, σ => (evE gl cf e Γ σ).bind fun v σ => (evO gl cf lo Γ σ).bind fun lo σ => (evO gl cf hi Γ σ).bind fun hi σ => Res.of (vCut σ v lo hi) σ
  | .frz e, Γ, σ => (evE gl cf e Γ σ).bind fun v σ => Res.vs (freeze σ v)
noncomputable def evEs (gl : List V) (cf : CF) : List Ex → Fm → Sg → Res (List V)
  | [], _, σ => .ok [] σ
  | e :: r, Γ, σ => (evE gl cf e Γ σ).bind fun v σ => (evEs gl cf r Γ σ).bind fun vs σ => .ok (v :: vs) σ
noncomputable def evO (gl : List V) (cf : CF) : Option Ex → Fm → Sg → Res (Option Int)
  | none, _, σ => .ok none σ
  | some e, Γ, σ => (evE gl cf e Γ σ).bind fun x σ => (Res.of (asInt x) σ).bind fun i σ => .ok (some i) σ
noncomputable def evT (gl : List V) (cf : CF) : Option Ex → Fm → Sg → Res Bool
  | none, _, σ => .ok true σ
  | some e, Γ, σ => (evE gl cf e Γ σ).bind fun v σ => Res.of (vTrue σ v) σ
end

/-! ### loops -/
noncomputable def forGo (body : Fm → Sg → Res (Fl × Fm)) (i : Nat) : List V → Fm → Sg → Res (Fl × Fm)
  | [], Γ, σ => .ok (.next, Γ) σ
  | x :: r, Γ, σ => (body (Γ.set i x) σ).bind fun p σ => match p.1 with
    | .next => forGo body i r p.2 σ
    | .ret v => .ok (.ret v, p.2) σ

/-- a turn hands on none: once more; some f: the loop is left -/
noncomputable def loopN (turn : Fm → Sg → Res (Option Fl × Fm)) : Nat → Fm → Sg → Res (Fl × Fm)
  | 0, _, _ => .bad
  | n + 1, Γ, σ => (turn Γ σ).bind fun p σ => match p.1 with
    | none => loopN turn n p.2 σ
    | some f => .ok (f, p.2) σ

open Classical in
noncomputable def loopW (turn : Fm → Sg → Res (Option Fl × Fm)) (Γ : Fm) (σ : Sg) : Res (Fl × Fm) :=
  if h : ∃ n, loopN turn n Γ σ ≠ .bad then loopN turn (Classical.choose h) Γ σ else .bad

theorem loopN_succ {turn : Fm → Sg → Res (Option Fl × Fm)} : ∀ {n : Nat} {Γ : Fm} {σ : Sg}, loopN turn n Γ σ ≠ .bad → loopN turn (n + 1) Γ σ = loopN turn n Γ σ
  | 0, _, _, h => (h rfl).elim
  | n + 1, Γ, σ, h => by
    rw [loopN, loopN]
    rw [loopN] at h
    cases hb : turn Γ σ with
    | bad => rfl
    | ex c s => rfl
    | ok p s =>
      rw [hb] at h
      simp only [bind_ok] at h ⊢
      cases hp : p.1 with
      | some f => rfl
      | none => rw [hp] at h; exact loopN_succ h

theorem loopN_le {turn : Fm → Sg → Res (Option Fl × Fm)} {n m : Nat} {Γ : Fm} {σ : Sg} (h : loopN turn n Γ σ ≠ .bad) (hm : n ≤ m) : loopN turn m Γ σ = loopN turn n Γ σ := by
  induction hm with
  | refl => rfl
  | step _ ih => rw [loopN_succ (ih ▸ h), ih]

theorem loopW_eq {turn : Fm → Sg → Res (Option Fl × Fm)} {n : Nat} {Γ : Fm} {σ : Sg} (h : loopN turn n Γ σ ≠ .bad) : loopW turn Γ σ = loopN turn n Γ σ := by
  have hx : ∃ n, loopN turn n Γ σ ≠ .bad := ⟨n, h⟩
  rw [loopW, dif_pos hx]
  have hc := Classical.choose_spec hx
  rcases Nat.le_total n (Classical.choose hx) with hle | hle
  · exact loopN_le h hle
  · exact (loopN_le hc hle).symm

theorem loopW_fuel {turn : Fm → Sg → Res (Option Fl × Fm)} {Γ : Fm} {σ : Sg} {p : Fl × Fm} {σ' : Sg} (h : loopW turn Γ σ = .ok p σ') : ∃ n, loopN turn n Γ σ = .ok p σ' := by
  rw [loopW] at h
  split at h
  · exact ⟨_, h⟩
  · cases h

theorem loopW_unfold (turn : Fm → Sg → Res (Option Fl × Fm)) (Γ : Fm) (σ : Sg) :
    loopW turn Γ σ = (turn Γ σ).bind fun p σ => match p.1 with | none => loopW turn p.2 σ | some f => .ok (f, p.2) σ := by
  cases hb : turn Γ σ with
  | bad =>
    rw [loopW, dif_neg]; · rfl
    rintro ⟨n, hn⟩
    cases n with
    | zero => exact hn rfl
    | succ n => rw [loopN, hb] at hn; exact hn rfl
  | ex c s =>
    have h : loopN turn 1 Γ σ = .ex c s := by rw [loopN, hb]; rfl
    rw [loopW_eq (n := 1) (by rw [h]; intro x; cases x), h]; rfl
  | ok p s =>
    rw [bind_ok]
    cases hp : p.1 with
    | some f =>
      have h : loopN turn 1 Γ σ = .ok (f, p.2) s := by rw [loopN, hb, bind_ok, hp]
      rw [loopW_eq (n := 1) (by rw [h]; intro x; cases x), h]
    | none =>
      have step : ∀ n, loopN turn (n + 1) Γ σ = loopN turn n p.2 s := fun n => by rw [loopN, hb, bind_ok, hp]
      by_cases hx : ∃ n, loopN turn n p.2 s ≠ .bad
      · obtain ⟨n, hn⟩ := hx
        rw [loopW_eq (n := n + 1) (by rw [step]; exact hn), step, loopW_eq hn]
      · have hy : ¬ ∃ n, loopN turn n Γ σ ≠ .bad := by
          rintro ⟨n, hn⟩
          cases n with
          | zero => exact hn rfl
          | succ n => rw [step] at hn; exact hx ⟨n, hn⟩
        rw [loopW, loopW, dif_neg hx, dif_neg hy]

noncomputable def excSub (c d : Nat) : Bool := c == d || d == 0

noncomputable def storeR (Γ : Fm) (o : Option Sg) : Res (Fl × Fm) := match o with | some σ => .ok (.next, Γ) σ | none => .bad

mutual
noncomputable def exS (gl : List V) (cf : CF) : St → Fm → Sg → Res (Fl × Fm)
  | .expr e, Γ, σ => (evE gl cf e Γ σ).bind fun _ σ => .ok (.next, Γ) σ
  | .ret e, Γ, σ => (evE gl cf e Γ σ).bind fun v σ => .ok (.ret v, Γ) σ
  | .asg i e, Γ, σ => (evE gl cf e Γ σ).bind fun v σ => .ok (.next, Γ.set i v) σ
  | .sto o i e, Γ, σ => (evE gl cf e Γ σ).bind fun v σ => (evE gl cf o Γ σ).bind fun ov σ => (evE gl cf i Γ σ).bind fun iv σ => storeR Γ (vStore σ ov iv v)
  | .ite c a b, Γ, σ => (evE gl cf c Γ σ).bind fun v σ => (Res.of (vTrue σ v) σ).bind fun t σ => if t then exB gl cf a Γ σ else exB gl cf b Γ σ
  | .while c b, Γ, σ => loopW (fun Γ σ => (evE gl cf c Γ σ).bind fun v σ => (Res.of (vTrue σ v) σ).bind fun t σ =>
      if t then (exB gl cf b Γ σ).bind fun p σ => match p.1 with | .next => .ok (none, p.2) σ | .ret v => .ok (some (.ret v), p.2) σ
      else .ok (some .next, Γ) σ) Γ σ
  | .for i ik a b body, Γ, σ => (evE gl cf a Γ σ).bind fun x σ => (evE gl cf b Γ σ).bind fun y σ => (Res.of (vItems ik x y) σ).bind fun items σ =>
      forGo (exB gl cf body) i items Γ σ
  | .raise c, _, σ => .ex c σ
  | .try body hs, Γ, σ => match exB gl cf body Γ σ with
    | .ok p σ => .ok p σ
    | .bad => .bad
    | .ex c σ => exH gl cf c hs Γ σ
noncomputable def exB (gl : List V) (cf : CF) : List St → Fm → Sg → Res (Fl × Fm)
  | [], Γ, σ => .ok (.next, Γ) σ
  | s :: r, Γ, σ => (exS gl cf s Γ σ).bind fun p σ => match p.1 with | .next => exB gl cf r p.2 σ | .ret v => .ok (.ret v, p.2) σ
noncomputable def exH (gl : List V) (cf : CF) (c : Nat) : List (Nat × Option Nat × List St) → Fm → Sg → Res (Fl × Fm)
  | [], _, σ => .ex c σ
  | (d, i, b) :: r, Γ, σ => if excSub c d then exB gl cf b (match i with | some i => Γ.set i (.exc c) | none => Γ) σ else exH gl cf c r Γ σ
end

structure Def where
  np : Nat
  nl : Nat
  body : List St

noncomputable def flV : Fl → V
  | .next => .none
  | .ret v => v

noncomputable def callF (gl : List V) (P : List Def) : Nat → CF
  | 0 => fun _ _ _ => .bad
  | d + 1 => fun f args σ => match P[f]? with
    | some D => if args.length = D.np then (exB gl (callF gl P d) D.body (args ++ List.replicate (D.nl - D.np) .undef) σ).bind fun p σ => .ok (flV p.1) σ else .bad
    | none => .bad

end Mine

namespace Mine

theorem st_eq_ok {o : Option Sg} {v : V} {σ' : Sg} (h : Res.st o = .ok v σ') : v = .none ∧ o = some σ' := by
  cases o with
  | none => cases h
  | some s => cases h; exact ⟨rfl, rfl⟩
theorem vs_eq_ok {o : Option (V × Sg)} {v : V} {σ' : Sg} (h : Res.vs o = .ok v σ') : o = some (v, σ') := by
  cases o with
  | none => cases h
  | some s => cases h; rfl
theorem putL_len {m : Bool} {xs : List V} {σ : Sg} {v : V} {σ' : Sg} (h : putL m xs σ = .ok v σ') : xs.length ≤ roomy := by
  by_cases hn : xs.length ≤ roomy
  · exact hn
  · rw [putL, if_neg hn] at h; cases h

section
variable {gl : List V} {cf : CF} {Γ : Fm} {σ : Sg}
theorem evE_cNone : evE gl cf .cNone Γ σ = .ok .none σ := rfl
theorem evE_cBool {b : Bool} : evE gl cf (.cBool b) Γ σ = .ok (.bool b) σ := rfl
theorem evE_cInt {i : Int} : evE gl cf (.cInt i) Γ σ = .ok (.int i) σ := rfl
theorem evE_cStr {s : List Nat} : evE gl cf (.cStr s) Γ σ = .ok (.str s) σ := rfl
theorem evE_var {i : Nat} : evE gl cf (.var i) Γ σ = Res.of (getV Γ i) σ := rfl
theorem evE_glob {i : Nat} : evE gl cf (.glob i) Γ σ = Res.of gl[i]? σ := rfl
theorem evEs_nil : evEs gl cf [] Γ σ = .ok [] σ := rfl
theorem evO_none : evO gl cf none Γ σ = .ok none σ := rfl
theorem evT_none : evT gl cf none Γ σ = .ok true σ := rfl
theorem exB_nil0 : exB gl cf [] Γ σ = .ok (.next, Γ) σ := rfl
theorem evE_and {a b : Ex} : evE gl cf (.and a b) Γ σ = (evE gl cf a Γ σ).bind fun v σ => (Res.of (vTrue σ v) σ).bind fun t σ => if t then evE gl cf b Γ σ else .ok v σ := rfl
theorem evE_or {a b : Ex} : evE gl cf (.or a b) Γ σ = (evE gl cf a Γ σ).bind fun v σ => (Res.of (vTrue σ v) σ).bind fun t σ => if t then .ok v σ else evE gl cf b Γ σ := rfl
theorem evE_not {a : Ex} : evE gl cf (.not a) Γ σ = (evE gl cf a Γ σ).bind fun v σ => (Res.of (vTrue σ v) σ).bind fun t σ => .ok (.bool (!t)) σ := rfl
theorem evE_neg {a : Ex} : evE gl cf (.neg a) Γ σ = (evE gl cf a Γ σ).bind fun v σ => Res.of (vNeg v) σ := rfl
theorem evE_bin {op : Bop} {l r : Ex} : evE gl cf (.bin op l r) Γ σ = (evE gl cf l Γ σ).bind fun a σ => (evE gl cf r Γ σ).bind fun b σ => Res.of (vBin σ op a b) σ := rfl
theorem evE_cmp {op : Cop} {l r : Ex} : evE gl cf (.cmp op l r) Γ σ = (evE gl cf l Γ σ).bind fun a σ => (evE gl cf r Γ σ).bind fun b σ => (Res.of (vCmp σ op a b) σ).bind fun t σ => .ok (.bool t) σ := rfl
theorem evE_cmp2 {o1 o2 : Cop} {a b c : Ex} : evE gl cf (.cmp2 o1 o2 a b c) Γ σ = (evE gl cf a Γ σ).bind fun x σ => (evE gl cf b Γ σ).bind fun y σ => (Res.of (vCmp σ o1 x y) σ).bind fun t σ =>
      if t then (evE gl cf c Γ σ).bind fun z σ => (Res.of (vCmp σ o2 y z) σ).bind fun u σ => .ok (.bool u) σ else .ok (.bool false) σ := rfl
theorem evE_ite {c a b : Ex} : evE gl cf (.ite c a b) Γ σ = (evE gl cf c Γ σ).bind fun v σ => (Res.of (vTrue σ v) σ).bind fun t σ => if t then evE gl cf a Γ σ else evE gl cf b Γ σ := rfl
theorem evE_tup {es : List Ex} : evE gl cf (.tup es) Γ σ = (evEs gl cf es Γ σ).bind fun vs σ => if vs.length ≤ roomy then .ok (.tup vs) σ else .bad := rfl
theorem evE_lst {m : Bool} {es : List Ex} : evE gl cf (.lst m es) Γ σ = (evEs gl cf es Γ σ).bind fun vs σ => putL m vs σ := rfl
theorem evE_comp0 {m : Bool} {elt : Ex} {ik : IK} {a b : Ex} {cond : Option Ex} : evE gl cf (.comp m elt ik a b cond) Γ σ = (evE gl cf a Γ σ).bind fun x σ => (evE gl cf b Γ σ).bind fun y σ => (Res.of (vItems ik x y) σ).bind fun items σ =>
      (compGo (evT gl cf cond) (evE gl cf elt) Γ items [] σ).bind fun vs σ => putL m vs σ := rfl
theorem evE_call {f : Nat} {args : List Ex} : evE gl cf (.call f args) Γ σ = (evEs gl cf args Γ σ).bind fun vs σ => cf f vs σ := rfl
theorem evE_bi {b : Bi} {args : List Ex} : evE gl cf (.bi b args) Γ σ = (evEs gl cf args Γ σ).bind fun vs σ => Res.of (vBi σ b vs) σ := rfl
theorem evE_app {o x : Ex} : evE gl cf (.app o x) Γ σ = (evE gl cf o Γ σ).bind fun ov σ => (Res.of (liveL σ ov) σ).bind fun _ σ => (evE gl cf x Γ σ).bind fun xv σ => Res.st (vApp σ ov xv) := rfl
theorem evE_pop {o : Ex} : evE gl cf (.pop o) Γ σ = (evE gl cf o Γ σ).bind fun ov σ => Res.vs (vPop σ ov) := rfl
theorem evE_join {s l : Ex} : evE gl cf (.join s l) Γ σ = (evE gl cf s Γ σ).bind fun sv σ => (evE gl cf l Γ σ).bind fun lv σ => Res.of (vJoin σ sv lv) σ := rfl
theorem evE_idx {e i : Ex} : evE gl cf (.idx e i) Γ σ = (evE gl cf e Γ σ).bind fun v σ => (evE gl cf i Γ σ).bind fun j σ => Res.of (vIdx σ v j) σ := rfl
theorem evE_slice {e : Ex} {lo hi : Option Ex} : evE gl cf (.slice e lo hi) Γ σ = (evE gl cf e Γ σ).bind fun v σ => (evO gl cf lo Γ σ).bind fun lo σ => (evO gl cf hi Γ σ).bind fun hi σ => Res.of (vCut σ v lo hi) σ := rfl
theorem evEs_cons {e : Ex} {r : List Ex} : evEs gl cf (e :: r) Γ σ = (evE gl cf e Γ σ).bind fun v σ => (evEs gl cf r Γ σ).bind fun vs σ => .ok (v :: vs) σ := rfl
theorem evO_some {e : Ex} : evO gl cf (some e) Γ σ = (evE gl cf e Γ σ).bind fun x σ => (Res.of (asInt x) σ).bind fun i σ => .ok (some i) σ := rfl
theorem evT_some {e : Ex} : evT gl cf (some e) Γ σ = (evE gl cf e Γ σ).bind fun v σ => Res.of (vTrue σ v) σ := rfl
theorem exS_expr0 {e : Ex} : exS gl cf (.expr e) Γ σ = (evE gl cf e Γ σ).bind fun _ σ => .ok (.next, Γ) σ := rfl
theorem exS_ret0 {e : Ex} : exS gl cf (.ret e) Γ σ = (evE gl cf e Γ σ).bind fun v σ => .ok (.ret v, Γ) σ := rfl
theorem exS_asg0 {i : Nat} {e : Ex} : exS gl cf (.asg i e) Γ σ = (evE gl cf e Γ σ).bind fun v σ => .ok (.next, Γ.set i v) σ := rfl
theorem exS_sto0 {o i e : Ex} : exS gl cf (.sto o i e) Γ σ = (evE gl cf e Γ σ).bind fun v σ => (evE gl cf o Γ σ).bind fun ov σ => (evE gl cf i Γ σ).bind fun iv σ => storeR Γ (vStore σ ov iv v) := rfl
theorem exS_ite0 {c : Ex} {a b : List St} : exS gl cf (.ite c a b) Γ σ = (evE gl cf c Γ σ).bind fun v σ => (Res.of (vTrue σ v) σ).bind fun t σ => if t then exB gl cf a Γ σ else exB gl cf b Γ σ := rfl
theorem exS_while0 {c : Ex} {b : List St} : exS gl cf (.while c b) Γ σ = loopW (fun Γ σ => (evE gl cf c Γ σ).bind fun v σ => (Res.of (vTrue σ v) σ).bind fun t σ =>
      if t then (exB gl cf b Γ σ).bind fun p σ => match p.1 with | .next => .ok (none, p.2) σ | .ret v => .ok (some (.ret v), p.2) σ
      else .ok (some .next, Γ) σ) Γ σ := rfl
theorem exS_for0 {i : Nat} {ik : IK} {a b : Ex} {body : List St} : exS gl cf (.for i ik a b body) Γ σ = (evE gl cf a Γ σ).bind fun x σ => (evE gl cf b Γ σ).bind fun y σ => (Res.of (vItems ik x y) σ).bind fun items σ =>
      forGo (exB gl cf body) i items Γ σ := rfl
theorem exB_cons0 {s : St} {r : List St} : exB gl cf (s :: r) Γ σ = (exS gl cf s Γ σ).bind fun p σ => match p.1 with | .next => exB gl cf r p.2 σ | .ret v => .ok (.ret v, p.2) σ := rfl
theorem forGo_cons {body : Fm → Sg → Res (Fl × Fm)} {i : Nat} {x : V} {r : List V} : forGo body i (x :: r) Γ σ = (body (Γ.set i x) σ).bind fun p σ => match p.1 with | .next => forGo body i r p.2 σ | .ret v => .ok (.ret v, p.2) σ := rfl
theorem callF_succ {P : List Def} {d f : Nat} {args : List V} : callF gl P (d + 1) f args σ = match P[f]? with | some D => if args.length = D.np then (exB gl (callF gl P d) D.body (args ++ List.replicate (D.nl - D.np) .undef) σ).bind fun p σ => .ok (flV p.1) σ else .bad | none => .bad := rfl
theorem compGo_cons {test : Fm → Sg → Res Bool} {elt : Fm → Sg → Res V} {x : V} {r acc : List V} : compGo test elt Γ (x :: r) acc σ = (test (Γ ++ [x]) σ).bind fun b σ =>
      if b then (elt (Γ ++ [x]) σ).bind fun v σ => compGo test elt Γ r (acc ++ [v]) σ else compGo test elt Γ r acc σ := rfl
/-- one turn of a while loop -/
noncomputable def whTurn (gl : List V) (cf : CF) (c : Ex) (b : List St) (Γ : Fm) (σ : Sg) : Res (Option Fl × Fm) := (evE gl cf c Γ σ).bind fun v σ => (Res.of (vTrue σ v) σ).bind fun t σ =>
      if t then (exB gl cf b Γ σ).bind fun p σ => match p.1 with | .next => .ok (none, p.2) σ | .ret v => .ok (some (.ret v), p.2) σ
      else .ok (some .next, Γ) σ
theorem exS_whileT {c : Ex} {b : List St} : exS gl cf (.while c b) Γ σ = loopW (whTurn gl cf c b) Γ σ := rfl
inductive WhStep (gl : List V) (cf : CF) (c : Ex) (b : List St) (m : Nat) (Γ : Fm) (σ : Sg) (p : Fl × Fm) (σ' : Sg) : Prop
  | stop (v : V) : evE gl cf c Γ σ = .ok v σ' → vTrue σ' v = some false → p = (.next, Γ) → WhStep gl cf c b m Γ σ p σ'
  | go (v : V) (σ₂ : Sg) (q : Fm) (σ₃ : Sg) : evE gl cf c Γ σ = .ok v σ₂ → vTrue σ₂ v = some true → exB gl cf b Γ σ₂ = .ok (.next, q) σ₃ → loopN (whTurn gl cf c b) m q σ₃ = .ok p σ' → WhStep gl cf c b m Γ σ p σ'
  | ret (v : V) (σ₂ : Sg) : evE gl cf c Γ σ = .ok v σ₂ → vTrue σ₂ v = some true → exB gl cf b Γ σ₂ = .ok p σ' → (∃ u, p.1 = .ret u) → WhStep gl cf c b m Γ σ p σ'
theorem whStep {c : Ex} {b : List St} {m : Nat} {p : Fl × Fm} {σ' : Sg} (h : loopN (whTurn gl cf c b) (m + 1) Γ σ = .ok p σ') : WhStep gl cf c b m Γ σ p σ' := by
  replace h : ((whTurn gl cf c b Γ σ).bind fun p σ => match p.1 with | none => loopN (whTurn gl cf c b) m p.2 σ | some f => .ok (f, p.2) σ) = .ok p σ' := h
  obtain ⟨q, σ₁, h1, h⟩ := bind_eq_ok h
  obtain ⟨v, σ₂, h2, h1⟩ := bind_eq_ok h1
  obtain ⟨t, h3, h1⟩ := bind_of_ok h1
  cases t with
  | false => cases h1; cases h; exact .stop v h2 h3 rfl
  | true =>
    obtain ⟨q', σ₃, h4, h1⟩ := bind_eq_ok h1
    obtain ⟨f, qΓ⟩ := q'
    cases f with
    | next => cases h1; exact .go v σ₂ qΓ _ h2 h3 h4 h
    | ret u => cases h1; cases h; exact .ret v σ₂ h2 h3 h4 ⟨u, rfl⟩
end
end Mine

namespace Mine
open PySem PyProof.Rows

/-- what the relations lean on: the heap at the law's call, and the own exception classes -/
structure Bs where
  prog : Program
  w : World
  hb : Heap
  xc : Nat → Option Addr
  av : Addr → Prop

noncomputable def PTup (h : Heap) (a : Addr) (items : Array Value) : Prop := ∃ n, h.get? a = some { cls := .type "tuple", data := .seq items n }
theorem PTup.isTup {h : Heap} {a : Addr} {items : Array Value} (T : PTup h a items) : IsTup h a items := let ⟨n, e⟩ := T; ⟨_, e, rfl, n, rfl⟩

noncomputable def live (σ : Sg) (φ : List Addr) (a : Addr) : Prop := ∃ (i : Nat) (c : Cell), σ[i]? = some c ∧ c ≠ .dead ∧ φ[i]? = some a

mutual
inductive VR (B : Bs) (σ : Sg) (φ : List Addr) (h : Heap) : V → Value → Prop
  | none : VR B σ φ h .none .none
  | bool (b : Bool) : VR B σ φ h (.bool b) (.bool b)
  | int (i : Int) (t : Tok) : VR B σ φ h (.int i) (.int i t)
  | str (s : List Nat) (t : Tok) : s.length ≤ roomy → VR B σ φ h (.str s) (.str ⟨s.toArray⟩ t)
  | tup {a : Addr} {vs : List Value} {xs : List V} : PTup h a vs.toArray → VRs B σ φ h xs vs → xs.length ≤ roomy → VR B σ φ h (.tup xs) (.ref a)
  | lst {a : Addr} {vs : List Value} {xs : List V} : h.PlainList a vs.toArray → (¬ live σ φ a ∧ ¬ B.av a) → VRs B σ φ h xs vs → xs.length ≤ roomy → VR B σ φ h (.lst xs) (.ref a)
  | ref {i : Nat} {a : Addr} : φ[i]? = some a → VR B σ φ h (.ref i) (.ref a)
  | exc {c : Nat} {a C : Addr} {o : Obj} : B.xc c = some C → h.get? a = some o → o.cls = .ref C → (∃ fs, o.data = .fields fs) → VR B σ φ h (.exc c) (.ref a)
inductive VRs (B : Bs) (σ : Sg) (φ : List Addr) (h : Heap) : List V → List Value → Prop
  | nil : VRs B σ φ h [] []
  | cons {v : Value} {x : V} {vs : List Value} {xs : List V} : VR B σ φ h x v → VRs B σ φ h xs vs → VRs B σ φ h (x :: xs) (v :: vs)
end

/-- how a live dict stands: its keys in order -/
noncomputable def DictI (B : Bs) (h : Heap) (a : Addr) (ks : List Int) : Prop := ∃ kvs, h.DictOf (intKind B.prog B.w) a kvs ∧ kvs.map (·.1) = ks
noncomputable def DictP (B : Bs) (h : Heap) (a : Addr) (ks : List (List Int)) : Prop := ∃ kvs, h.DictOfH (tupleKind (intKind B.prog B.w)) a kvs ∧ kvs.map (·.1) = ks

structure SR (B : Bs) (σ : Sg) (φ : List Addr) (h : Heap) : Prop where
  len : φ.length = σ.length
  inj : φ.Nodup
  ex : ∀ a ∈ φ, ∃ o, h.get? a = some o
  lst : ∀ (i : Nat) xs, σ[i]? = some (.lst xs) → ∃ a vs, φ[i]? = some a ∧ h.PlainList a (List.toArray vs) ∧ VRs B σ φ h xs vs ∧ xs.length ≤ roomy
  dictI : ∀ (i : Nat) ks, σ[i]? = some (.dictI ks) → ∃ a, φ[i]? = some a ∧ DictI B h a ks ∧ ks.length ≤ roomy
  dictP : ∀ (i : Nat) ks, σ[i]? = some (.dictP ks) → ∃ a, φ[i]? = some a ∧ DictP B h a ks ∧ ks.length ≤ roomy
  main : ∃ o, h.get? mainGlobals = some o
  sys : ∀ a ∈ φ, (a == sysModules) = false
  based : ∀ b o, B.hb.get? b = some o → h.get? b = some o
  new : ∀ a ∈ φ, B.hb.get? a = none
  avx : ∀ b, B.av b → ∃ o, h.get? b = some o
  avn : ∀ a ∈ φ, ¬ B.av a

structure Stp (W : Addr → Prop) (σ : Sg) (φ : List Addr) (h : Heap) (σ' : Sg) (φ' : List Addr) (h' : Heap) : Prop where
  pre : ∀ (i : Nat) (a : Addr), φ[i]? = some a → φ'[i]? = some a
  new : ∀ (i : Nat) (a : Addr), φ.length ≤ i → φ'[i]? = some a → h.get? a = none
  dead : ∀ (i : Nat), σ[i]? = some .dead → σ'[i]? = some .dead
  keep : ∀ b o, h.get? b = some o → ¬ live σ φ b → ¬ W b → h'.get? b = some o
  ex : ∀ b o, h.get? b = some o → ∃ o', h'.get? b = some o'

structure Stq (W : Addr → Prop) (σ : Sg) (φ : List Addr) (h : Heap) (σ' : Sg) (φ' : List Addr) (h' : Heap) : Prop where
  pre : ∀ (i : Nat) (a : Addr), φ[i]? = some a → φ'[i]? = some a
  new : ∀ (i : Nat) (a : Addr), φ.length ≤ i → φ'[i]? = some a → h.get? a = none
  dead : ∀ (i : Nat), σ[i]? = some .dead → σ'[i]? = some .dead
  keep : ∀ b o, h.get? b = some o → ¬ live σ φ b → ¬ W b → h'.get? b = some o
theorem Stp.q {W : Addr → Prop} {σ σ' : Sg} {φ φ' : List Addr} {h h' : Heap} (S : Stp W σ φ h σ' φ' h') : Stq W σ φ h σ' φ' h' := ⟨S.pre, S.new, S.dead, S.keep⟩

theorem Stp.refl {W : Addr → Prop} {σ : Sg} {φ : List Addr} {h : Heap} : Stp W σ φ h σ φ h :=
  ⟨fun _ _ e => e, fun i a hi e => (by rw [List.getElem?_eq_none hi] at e; cases e), fun _ e => e, fun _ _ e _ _ => e, fun _ o e => ⟨o, e⟩⟩

section
variable {B : Bs} {W W' : Addr → Prop} {σ σ₁ σ₂ : Sg} {φ φ₁ φ₂ : List Addr} {h h₁ h₂ : Heap}

theorem Stp.weaken (S : Stp W σ φ h σ₁ φ₁ h₁) (hw : ∀ b, W b → W' b) : Stp W' σ φ h σ₁ φ₁ h₁ :=
  ⟨S.pre, S.new, S.dead, fun b o e hl hW => S.keep b o e hl fun x => hW (hw b x), S.ex⟩

theorem live.lt {a : Addr} (L : live σ φ a) : ∃ i : Nat, φ[i]? = some a := let ⟨i, _, _, _, e⟩ := L; ⟨i, e⟩
theorem live.mem {a : Addr} (L : live σ φ a) : a ∈ φ := let ⟨_, e⟩ := L.lt; List.mem_of_getElem? e

theorem Stq.live (S : Stq W σ φ h σ₁ φ₁ h₁) (hlen : φ.length = σ.length) {a : Addr} (L : live σ₁ φ₁ a) : Mine.live σ φ a ∨ h.get? a = none := by
  obtain ⟨i, c, e1, e2, e3⟩ := L
  by_cases hi : i < φ.length
  · left
    have hs : i < σ.length := hlen ▸ hi
    have e4 := S.pre i φ[i] (List.getElem?_eq_getElem hi)
    rw [e3] at e4
    refine ⟨i, σ[i], List.getElem?_eq_getElem hs, fun hd => e2 ?_, by rw [List.getElem?_eq_getElem hi, Option.some.inj e4]⟩
    have := S.dead i (by rw [List.getElem?_eq_getElem hs, hd])
    rw [e1] at this; exact Option.some.inj this
  · exact .inr (S.new i a (Nat.le_of_not_lt hi) e3)

theorem Stp.live (S : Stp W σ φ h σ₁ φ₁ h₁) (hlen : φ.length = σ.length) {a : Addr} (L : live σ₁ φ₁ a) : Mine.live σ φ a ∨ h.get? a = none := S.q.live hlen L

theorem Stp.trans (S : Stp W σ φ h σ₁ φ₁ h₁) (S' : Stp W σ₁ φ₁ h₁ σ₂ φ₂ h₂) (hlen : φ.length = σ.length) : Stp W σ φ h σ₂ φ₂ h₂ := by
  refine ⟨fun i a e => S'.pre i a (S.pre i a e), fun i a hi e => ?_, fun i e => S'.dead i (S.dead i e), fun b o e hl hW => ?_, fun b o e => ?_⟩
  · by_cases h1 : i < φ₁.length
    · have e4 := S'.pre i φ₁[i] (List.getElem?_eq_getElem h1)
      rw [e] at e4
      exact S.new i a hi (by rw [List.getElem?_eq_getElem h1, Option.some.inj e4])
    · have := S'.new i a (Nat.le_of_not_lt h1) e
      cases hq : h.get? a with
      | none => rfl
      | some o => obtain ⟨o', q⟩ := S.ex a o hq; rw [this] at q; cases q
  · refine S'.keep b o (S.keep b o e hl hW) (fun L => ?_) hW
    rcases S.live hlen L with x | x
    · exact hl x
    · rw [e] at x; cases x
  · obtain ⟨o', e'⟩ := S.ex b o e
    exact S'.ex b o' e'

/-- the writable places bear no list, no tuple, no exception -/
noncomputable def Apart (B : Bs) (W : Addr → Prop) (h : Heap) : Prop := ∀ b, W b → ∀ o, h.get? b = some o → (B.av b ∧ o.cls = .type "list") ∨ ((∀ xs n, o.data ≠ .seq xs n) ∧ ∀ fs, o.data = .fields fs → ∀ C, o.cls ≠ .ref C)
theorem Apart.none {B : Bs} {h : Heap} : Apart B (fun _ => False) h := fun _ x => x.elim

theorem SR.liveObj (R : SR B σ φ h) {a : Addr} (L : live σ φ a) : ∃ o, h.get? a = some o ∧ ((o.cls = .type "list" ∧ ∃ xs n, o.data = .seq xs n) ∨ (o.cls = .type "dict" ∧ ∃ es n, o.data = .dict es n)) := by
  obtain ⟨i, c, e1, e2, e3⟩ := L
  cases c with
  | lst xs =>
    obtain ⟨a', vs, e4, ⟨n, ho⟩, _⟩ := R.lst i xs e1
    rw [e3] at e4; cases e4
    exact ⟨_, ho, .inl ⟨rfl, _, n, rfl⟩⟩
  | dictI ks =>
    obtain ⟨a', e4, ⟨_, ⟨o, es, n, ho, hc, hd, _⟩, _⟩, _⟩ := R.dictI i ks e1
    rw [e3] at e4; cases e4
    exact ⟨o, ho, .inr ⟨hc.1, _, n, hd⟩⟩
  | dictP ks =>
    obtain ⟨a', e4, ⟨_, ⟨o, es, n, ho, hc, hd, _⟩, _⟩, _⟩ := R.dictP i ks e1
    rw [e3] at e4; cases e4
    exact ⟨o, ho, .inr ⟨hc.1, _, n, hd⟩⟩
  | dead => exact (e2 rfl).elim

theorem SR.notlive_tup (R : SR B σ φ h) {a : Addr} {items : Array Value} (T : PTup h a items) : ¬ live σ φ a := fun L => by
  obtain ⟨n, ho⟩ := T
  obtain ⟨o', ho', x⟩ := R.liveObj L
  rw [ho] at ho'; cases ho'
  rcases x with ⟨x, _⟩ | ⟨x, _⟩
  · exact absurd (show Value.type "tuple" = Value.type "list" from x) (by decide)
  · exact absurd (show Value.type "tuple" = Value.type "dict" from x) (by decide)

mutual
theorem VR.monoq (R : SR B σ φ h) (S : Stq W σ φ h σ₁ φ₁ h₁) (hw : Apart B W h) : ∀ {x : V} {v : Value}, VR B σ φ h x v → VR B σ₁ φ₁ h₁ x v
  | _, _, .none => .none
  | _, _, .bool b => .bool b
  | _, _, .int i t => .int i t
  | _, _, .str s t hs => .str s t hs
  | _, _, .tup (a := a) T r hn => .tup (by
      have nl := R.notlive_tup T
      obtain ⟨n, ho⟩ := T
      exact ⟨n, S.keep a _ ho nl fun x => (hw a x _ ho).elim (fun y => absurd (show Value.type "tuple" = Value.type "list" from y.2) (by decide)) fun y => y.1 _ _ rfl⟩) (VRs.monoq R S hw r) hn
  | _, _, .lst (a := a) T nl r hn => .lst (by
      obtain ⟨n, ho⟩ := T
      exact ⟨n, S.keep a _ ho nl.1 fun x => (hw a x _ ho).elim (fun y => nl.2 y.1) fun y => y.1 _ _ rfl⟩) ⟨(fun L => by
      rcases S.live R.len L with x | x
      · exact nl.1 x
      · obtain ⟨n, ho⟩ := T; rw [ho] at x; cases x), nl.2⟩ (VRs.monoq R S hw r) hn
  | _, _, .ref e => .ref (S.pre _ _ e)
  | _, _, .exc (a := a) e1 e2 e3 e4 => .exc e1 (S.keep a _ e2 (fun L => by
      obtain ⟨o', ho', x⟩ := R.liveObj L
      rw [e2] at ho'; cases ho'
      obtain ⟨fs, hf⟩ := e4
      rcases x with ⟨_, _, _, x⟩ | ⟨_, _, _, x⟩ <;> rw [hf] at x <;> cases x) fun x => (hw a x _ e2).elim (fun y => absurd (e3.symm.trans y.2) (by intro z; cases z)) fun y => y.2 _ e4.choose_spec _ e3) e3 e4
theorem VRs.monoq (R : SR B σ φ h) (S : Stq W σ φ h σ₁ φ₁ h₁) (hw : Apart B W h) : ∀ {xs : List V} {vs : List Value}, VRs B σ φ h xs vs → VRs B σ₁ φ₁ h₁ xs vs
  | _, _, .nil => .nil
  | _, _, .cons a r => .cons (VR.monoq R S hw a) (VRs.monoq R S hw r)
end

theorem VR.mono (R : SR B σ φ h) (S : Stp W σ φ h σ₁ φ₁ h₁) (hw : Apart B W h) {x : V} {v : Value} (r : VR B σ φ h x v) : VR B σ₁ φ₁ h₁ x v := r.monoq R S.q hw
theorem VRs.mono (R : SR B σ φ h) (S : Stp W σ φ h σ₁ φ₁ h₁) (hw : Apart B W h) {xs : List V} {vs : List Value} (r : VRs B σ φ h xs vs) : VRs B σ₁ φ₁ h₁ xs vs := r.monoq R S.q hw

theorem SR.notlive_tupC (R : SR B σ φ h) {a : Addr} {o : Obj} (ho : h.get? a = some o) (hc : o.cls = .type "tuple") : ¬ live σ φ a := fun L => by
  obtain ⟨o', ho', x⟩ := R.liveObj L
  rw [ho] at ho'; cases ho'
  rw [hc] at x
  rcases x with ⟨x, _⟩ | ⟨x, _⟩
  · exact absurd x (by decide)
  · exact absurd x (by decide)

theorem DictI.mono {a : Addr} {ks : List Int} (D : DictI B h a ks) (he : ∀ o, h.get? a = some o → h₁.get? a = some o) : DictI B h₁ a ks := by
  obtain ⟨kvs, D, e⟩ := D
  exact ⟨kvs, D.at he, e⟩
theorem DictP.monoq {a : Addr} {ks : List (List Int)} (R : SR B σ φ h) (S : Stq W σ φ h σ₁ φ₁ h₁) (hw : Apart B W h) (D : DictP B h a ks) (he : ∀ o, h.get? a = some o → h₁.get? a = some o) : DictP B h₁ a ks := by
  obtain ⟨kvs, ⟨o, es, ep, ho, hx, hd, hes, his, hn⟩, e⟩ := D
  refine ⟨kvs, ⟨o, es, ep, he o ho, hx, hd, hes, fun x hx => ?_, hn⟩, e⟩
  obtain ⟨o', items, n, h1, h2, h3, h4⟩ := his x hx
  exact ⟨o', items, n, S.keep _ o' h1 (R.notlive_tupC h1 h2) (fun y => (hw _ y o' h1).elim (fun z => absurd (h2.symm.trans z.2) (by decide)) fun z => z.1 _ _ h3), h2, h3, h4⟩

theorem DictP.mono {a : Addr} {ks : List (List Int)} (R : SR B σ φ h) (S : Stp W σ φ h σ₁ φ₁ h₁) (hw : Apart B W h) (D : DictP B h a ks) (he : ∀ o, h.get? a = some o → h₁.get? a = some o) : DictP B h₁ a ks := D.monoq R S.q hw he

theorem VRs.length {xs : List V} {vs : List Value} (r : VRs B σ φ h xs vs) : vs.length = xs.length := by
  induction xs generalizing vs with
  | nil => cases r; rfl
  | cons x xs ih => cases r with | cons _ r => rw [List.length_cons, List.length_cons, ih r]
theorem VRs.append {xs ys : List V} {vs ws : List Value} (r : VRs B σ φ h xs vs) (q : VRs B σ φ h ys ws) : VRs B σ φ h (xs ++ ys) (vs ++ ws) := by
  induction xs generalizing vs with
  | nil => cases r; exact q
  | cons x xs ih => cases r with | cons a r => exact .cons a (ih r)
theorem VRs.get {xs : List V} {vs : List Value} (r : VRs B σ φ h xs vs) {k : Nat} {x : V} (e : xs[k]? = some x) : ∃ v, vs[k]? = some v ∧ VR B σ φ h x v := by
  induction xs generalizing vs k with
  | nil => simp at e
  | cons y xs ih => cases r with
    | cons a r => cases k with
      | zero => simp at e; subst e; exact ⟨_, rfl, a⟩
      | succ k => exact ih r (by simpa using e)
theorem VRs.take {xs : List V} {vs : List Value} (r : VRs B σ φ h xs vs) (n : Nat) : VRs B σ φ h (xs.take n) (vs.take n) := by
  induction n generalizing xs vs with
  | zero => rw [List.take_zero, List.take_zero]; exact .nil
  | succ n ih => cases r with
    | nil => exact .nil
    | cons a r => exact .cons a (ih r)
theorem VRs.drop {xs : List V} {vs : List Value} (r : VRs B σ φ h xs vs) (n : Nat) : VRs B σ φ h (xs.drop n) (vs.drop n) := by
  induction n generalizing xs vs with
  | zero => exact r
  | succ n ih => cases r with
    | nil => exact .nil
    | cons a r => exact ih r
theorem VRs.reverse {xs : List V} {vs : List Value} (r : VRs B σ φ h xs vs) : VRs B σ φ h xs.reverse vs.reverse := by
  induction xs generalizing vs with
  | nil => cases r; exact .nil
  | cons x xs ih => cases r with
    | cons a r => rw [List.reverse_cons, List.reverse_cons]; exact (ih r).append (.cons a .nil)
theorem VRs.set {xs : List V} {vs : List Value} (r : VRs B σ φ h xs vs) {x : V} {v : Value} (a : VR B σ φ h x v) (k : Nat) : VRs B σ φ h (xs.set k x) (vs.set k v) := by
  induction k generalizing xs vs with
  | zero => cases r with
    | nil => exact .nil
    | cons _ r => exact .cons a r
  | succ k ih => cases r with
    | nil => exact .nil
    | cons b r => exact .cons b (ih r)
end

end Mine

namespace Mine
open PySem PyProof.Rows

abbrev W0 : Addr → Prop := fun _ => False

section
variable {B : Bs} {W : Addr → Prop} {σ σ₁ σ₂ : Sg} {φ φ₁ φ₂ : List Addr} {h h₁ h₂ : Heap}

theorem Stp.grow (hk : ∀ b o, h.get? b = some o → h₁.get? b = some o) : Stp W σ φ h σ φ h₁ :=
  ⟨fun _ _ e => e, fun i a hi e => (by rw [List.getElem?_eq_none hi] at e; cases e), fun _ e => e, fun b o e _ _ => hk b o e, fun b o e => ⟨o, hk b o e⟩⟩

/-- the state is carried over a step that leaves the live objects as they are -/
theorem SR.carry (R : SR B σ φ h) (S : Stp W σ φ h σ φ h₁) (hw : Apart B W h) (hl : ∀ a o, live σ φ a → h.get? a = some o → h₁.get? a = some o) (hb : ∀ b, W b → B.hb.get? b = none) : SR B σ φ h₁ := by
  refine ⟨R.len, R.inj, fun a ha => ?_, fun i xs e => ?_, fun i ks e => ?_, fun i ks e => ?_, (let ⟨o, ho⟩ := R.main; S.ex _ o ho), R.sys, fun b o e => ?_, R.new, (fun b hb => let ⟨o, ho⟩ := R.avx b hb; S.ex b o ho), R.avn⟩
  · obtain ⟨o, ho⟩ := R.ex a ha; exact S.ex a o ho
  · obtain ⟨a, vs, e1, ⟨n, ho⟩, e3, e4⟩ := R.lst i xs e
    exact ⟨a, vs, e1, ⟨n, hl a _ ⟨i, _, e, (by intro x; cases x), e1⟩ ho⟩, e3.mono R S hw, e4⟩
  · obtain ⟨a, e1, D, hr⟩ := R.dictI i ks e
    exact ⟨a, e1, D.mono fun o ho => hl a o ⟨i, _, e, (by intro x; cases x), e1⟩ ho, hr⟩
  · obtain ⟨a, e1, D, hr⟩ := R.dictP i ks e
    exact ⟨a, e1, D.mono R S hw fun o ho => hl a o ⟨i, _, e, (by intro x; cases x), e1⟩ ho, hr⟩
  · refine S.keep b o (R.based b o e) (fun L => ?_) fun x => ?_
    · have := R.new b L.mem; rw [e] at this; cases this
    · have := hb b x; rw [e] at this; cases this

theorem Stq.one {b0 : Addr} (hk : ∀ b o, b ≠ b0 → h.get? b = some o → h₁.get? b = some o) : Stq (· = b0) σ φ h σ φ h₁ :=
  ⟨fun _ _ e => e, fun i a hi e => (by rw [List.getElem?_eq_none hi] at e; cases e), fun _ e => e, fun b o e _ hW => hk b o hW e⟩

/-- one object that nobody holds is turned, or lost -/
theorem SR.lose {b0 : Addr} (R : SR B σ φ h) (hb0 : B.hb.get? b0 = none) (ha : Apart B (· = b0) h) (nl : b0 ∉ φ) (hm : b0 ≠ mainGlobals) (hv : ¬ B.av b0) (hk : ∀ b o, b ≠ b0 → h.get? b = some o → h₁.get? b = some o) : SR B σ φ h₁ := by
  have S : Stq (· = b0) σ φ h σ φ h₁ := Stq.one hk
  have hl : ∀ a o, live σ φ a → h.get? a = some o → h₁.get? a = some o := fun a o L e => hk a o (fun q => nl (q ▸ L.mem)) e
  refine ⟨R.len, R.inj, fun a ha => ?_, fun i xs e => ?_, fun i ks e => ?_, fun i ks e => ?_, (let ⟨o, ho⟩ := R.main; ⟨o, hk _ o (Ne.symm hm) ho⟩), R.sys, fun b o e => ?_, R.new, (fun b hb => let ⟨o, ho⟩ := R.avx b hb; ⟨o, hk b o (fun q => hv (q ▸ hb)) ho⟩), R.avn⟩
  · obtain ⟨o, ho⟩ := R.ex a ha; exact ⟨o, hk a o (fun q => nl (q ▸ ha)) ho⟩
  · obtain ⟨a, vs, e1, ⟨n, ho⟩, e3, e4⟩ := R.lst i xs e
    exact ⟨a, vs, e1, ⟨n, hl a _ ⟨i, _, e, (by intro x; cases x), e1⟩ ho⟩, e3.monoq R S ha, e4⟩
  · obtain ⟨a, e1, D, hr⟩ := R.dictI i ks e
    exact ⟨a, e1, D.mono fun o ho => hl a o ⟨i, _, e, (by intro x; cases x), e1⟩ ho, hr⟩
  · obtain ⟨a, e1, D, hr⟩ := R.dictP i ks e
    exact ⟨a, e1, D.monoq R S ha fun o ho => hl a o ⟨i, _, e, (by intro x; cases x), e1⟩ ho, hr⟩
  · exact hk b o (fun q => by rw [q, hb0] at e; cases e) (R.based b o e)

theorem SR.grow (R : SR B σ φ h) (hk : ∀ b o, h.get? b = some o → h₁.get? b = some o) : SR B σ φ h₁ :=
  R.carry (W := W0) (Stp.grow hk) Apart.none (fun a o _ e => hk a o e) fun _ x => x.elim

theorem VR.grow {x : V} {v : Value} (R : SR B σ φ h) (hk : ∀ b o, h.get? b = some o → h₁.get? b = some o) (r : VR B σ φ h x v) : VR B σ φ h₁ x v := r.mono (W := W0) R (Stp.grow hk) Apart.none
theorem VRs.grow {x : List V} {v : List Value} (R : SR B σ φ h) (hk : ∀ b o, h.get? b = some o → h₁.get? b = some o) (r : VRs B σ φ h x v) : VRs B σ φ h₁ x v := r.mono (W := W0) R (Stp.grow hk) Apart.none

theorem getElem?_snoc_lt {α : Type} {xs : List α} {i : Nat} {a y : α} (e : xs[i]? = some a) : (xs ++ [y])[i]? = some a := by
  have hi : i < xs.length := (List.getElem?_eq_some_iff.mp e).1
  rw [List.getElem?_append_left hi]; exact e
theorem getElem?_snoc {α : Type} {xs : List α} {i : Nat} {a y : α} (e : (xs ++ [y])[i]? = some a) : xs[i]? = some a ∨ (i = xs.length ∧ a = y) := by
  rcases Nat.lt_trichotomy i xs.length with hi | hi | hi
  · rw [List.getElem?_append_left hi] at e; exact .inl e
  · subst hi; simp at e; exact .inr ⟨rfl, e.symm⟩
  · rw [List.getElem?_eq_none (by rw [List.length_append, List.length_singleton]; omega)] at e; cases e

theorem Stp.alloc {c : Cell} {a : Addr} (_ : φ.length = σ.length) (ha : h.get? a = none) (hk : ∀ b o, h.get? b = some o → h₁.get? b = some o) : Stp W σ φ h (σ ++ [c]) (φ ++ [a]) h₁ := by
  refine ⟨fun i b e => getElem?_snoc_lt e, fun i b hi e => ?_, fun i e => getElem?_snoc_lt e, fun b o e _ _ => hk b o e, fun b o e => ⟨o, hk b o e⟩⟩
  rcases getElem?_snoc e with x | ⟨_, rfl⟩
  · rw [List.getElem?_eq_none hi] at x; cases x
  · exact ha

theorem SR.allocAny {c : Cell} {a : Addr} {o : Obj} (R : SR B σ φ h) (ha : h.get? a = none) (hk : ∀ b o, h.get? b = some o → h₁.get? b = some o) (ho : h₁.get? a = some o)
    (hl : ∀ xs, c = .lst xs → ∃ vs, h₁.PlainList a (List.toArray vs) ∧ VRs B σ φ h xs vs ∧ xs.length ≤ roomy)
    (hdI : ∀ ks, c = .dictI ks → DictI B h₁ a ks ∧ ks.length ≤ roomy) (hdP : ∀ ks, c = .dictP ks → DictP B h₁ a ks ∧ ks.length ≤ roomy) (hs : (a == sysModules) = false) : SR B (σ ++ [c]) (φ ++ [a]) h₁ := by
  have S : Stp W0 σ φ h (σ ++ [c]) (φ ++ [a]) h₁ := Stp.alloc R.len ha hk
  refine ⟨?_, ?_, fun b hb => ?_, fun i xs e => ?_, fun i ks e => ?_, fun i ks e => ?_, (let ⟨o, ho⟩ := R.main; ⟨o, hk _ o ho⟩), fun b hb => ?_, fun b o e => ?_, fun b hb => ?_, (fun b hb => let ⟨o, ho⟩ := R.avx b hb; ⟨o, hk _ o ho⟩), fun b hb hv => ?_⟩
  · rw [List.length_append, List.length_append, R.len]; rfl
  · refine List.nodup_append.mpr ⟨R.inj, (by simp), fun x hx y hy e => ?_⟩
    rw [List.mem_singleton.mp hy] at e
    subst e
    obtain ⟨o', e'⟩ := R.ex x hx; rw [ha] at e'; cases e'
  · rcases List.mem_append.mp hb with hb | hb
    · obtain ⟨o', e'⟩ := R.ex b hb; exact ⟨o', hk b o' e'⟩
    · rw [List.mem_singleton.mp hb]; exact ⟨o, ho⟩
  · rcases getElem?_snoc e with e | ⟨rfl, e'⟩
    · obtain ⟨b, vs, e1, ⟨n', e2⟩, e3, e4⟩ := R.lst i xs e
      exact ⟨b, vs, getElem?_snoc_lt e1, ⟨n', hk b _ e2⟩, e3.mono R S Apart.none, e4⟩
    · obtain ⟨vs, e1, e2, e3⟩ := hl xs e'.symm
      exact ⟨a, vs, (by rw [← R.len]; simp), e1, e2.mono R S Apart.none, e3⟩
  · rcases getElem?_snoc e with e | ⟨rfl, e'⟩
    · obtain ⟨b, e1, D, hr⟩ := R.dictI i ks e
      exact ⟨b, getElem?_snoc_lt e1, D.mono fun o' e' => hk b o' e', hr⟩
    · exact ⟨a, (by rw [← R.len]; simp), hdI ks e'.symm⟩
  · rcases getElem?_snoc e with e | ⟨rfl, e'⟩
    · obtain ⟨b, e1, D, hr⟩ := R.dictP i ks e
      exact ⟨b, getElem?_snoc_lt e1, D.mono R S Apart.none fun o' e' => hk b o' e', hr⟩
    · exact ⟨a, (by rw [← R.len]; simp), hdP ks e'.symm⟩
  · rcases List.mem_append.mp hb with hb | hb
    · exact R.sys b hb
    · rw [List.mem_singleton.mp hb]; exact hs
  · exact hk b o (R.based b o e)
  · rcases List.mem_append.mp hb with hb | hb
    · exact R.new b hb
    · rw [List.mem_singleton.mp hb]
      cases e : B.hb.get? a with
      | none => rfl
      | some o' => have := R.based a o' e; rw [ha] at this; cases this
  · rcases List.mem_append.mp hb with hb | hb
    · exact R.avn b hb hv
    · rw [List.mem_singleton.mp hb] at hv
      obtain ⟨o', e'⟩ := R.avx a hv; rw [ha] at e'; cases e'

theorem SR.allocL {xs : List V} {vs : List Value} {a : Addr} (R : SR B σ φ h) (ha : h.get? a = none) (hk : ∀ b o, h.get? b = some o → h₁.get? b = some o)
    (hi : h₁.PlainList a vs.toArray) (r : VRs B σ φ h xs vs) (hx : xs.length ≤ roomy) (hs : (a == sysModules) = false) : SR B (σ ++ [.lst xs]) (φ ++ [a]) h₁ := by
  obtain ⟨n, ho⟩ := id hi
  exact R.allocAny ha hk ho (fun ys e => by cases e; exact ⟨vs, hi, r, hx⟩) (fun ks e => by cases e) (fun ks e => by cases e) hs

/-- a live object is turned -/
theorem Stp.upd {i : Nat} {c c' : Cell} {a : Addr} (hi : σ[i]? = some c) (hc : c ≠ .dead) (ha : φ[i]? = some a)
    (hk : ∀ b o, b ≠ a → h.get? b = some o → h₁.get? b = some o) (hx : ∃ o, h₁.get? a = some o) : Stp W σ φ h (σ.set i c') φ h₁ := by
  refine ⟨fun _ _ e => e, fun j b hj e => (by rw [List.getElem?_eq_none hj] at e; cases e), fun j e => ?_, fun b o e hl _ => hk b o (fun q => hl (q ▸ ⟨i, c, hi, hc, ha⟩)) e, fun b o e => ?_⟩
  · by_cases q : i = j
    · subst q; rw [hi] at e; exact (hc (Option.some.inj e)).elim
    · rw [List.getElem?_set_ne q]; exact e
  · by_cases q : b = a
    · rw [q]; exact hx
    · exact ⟨o, hk b o q e⟩

theorem nodup_idx {α : Type} {xs : List α} (hn : xs.Nodup) {i j : Nat} {a : α} (hi : xs[i]? = some a) (hj : xs[j]? = some a) : i = j := by
  have h1 := (List.getElem?_eq_some_iff.mp hi).1
  exact (List.getElem?_inj h1 hn).mp (hi.trans hj.symm)

theorem SR.updAny {i : Nat} {c c' : Cell} {a : Addr} {o : Obj} (R : SR B σ φ h) (hi : σ[i]? = some c) (hc : c ≠ .dead) (ha : φ[i]? = some a)
    (hk : ∀ b o, b ≠ a → h.get? b = some o → h₁.get? b = some o) (ho : h₁.get? a = some o)
    (hl : ∀ xs, c' = .lst xs → ∃ vs, h₁.PlainList a (List.toArray vs) ∧ VRs B σ φ h xs vs ∧ xs.length ≤ roomy)
    (hdI : ∀ ks, c' = .dictI ks → DictI B h₁ a ks ∧ ks.length ≤ roomy) (hdP : ∀ ks, c' = .dictP ks → DictP B h₁ a ks ∧ ks.length ≤ roomy) : SR B (σ.set i c') φ h₁ := by
  have S : Stp W0 σ φ h (σ.set i c') φ h₁ := Stp.upd hi hc ha hk ⟨o, ho⟩
  have hlt : i < σ.length := (List.getElem?_eq_some_iff.mp hi).1
  refine ⟨by rw [List.length_set]; exact R.len, R.inj, fun b hb => ?_, fun j xs e => ?_, fun j ks e => ?_, fun j ks e => ?_, (let ⟨o, ho⟩ := R.main; S.ex _ o ho), R.sys, fun b o' e => ?_, R.new, (fun b hb => let ⟨o, ho⟩ := R.avx b hb; S.ex b o ho), R.avn⟩
  · obtain ⟨o', e'⟩ := R.ex b hb; exact S.ex b o' e'
  · by_cases q : i = j
    · subst q
      rw [List.getElem?_set_self hlt] at e
      obtain ⟨vs, e1, e2, e3⟩ := hl xs (Option.some.inj e)
      exact ⟨a, vs, ha, e1, e2.mono R S Apart.none, e3⟩
    · rw [List.getElem?_set_ne q] at e
      obtain ⟨b, vs, e1, ⟨n', e2⟩, e3, e4⟩ := R.lst j xs e
      exact ⟨b, vs, e1, ⟨n', hk b _ (fun z => q (nodup_idx R.inj ha (z ▸ e1))) e2⟩, e3.mono R S Apart.none, e4⟩
  · by_cases q : i = j
    · subst q
      rw [List.getElem?_set_self hlt] at e
      exact ⟨a, ha, hdI ks (Option.some.inj e)⟩
    · rw [List.getElem?_set_ne q] at e
      obtain ⟨b, e1, D, hr⟩ := R.dictI j ks e
      exact ⟨b, e1, D.mono fun o' e' => hk b o' (fun z => q (nodup_idx R.inj ha (z ▸ e1))) e', hr⟩
  · by_cases q : i = j
    · subst q
      rw [List.getElem?_set_self hlt] at e
      exact ⟨a, ha, hdP ks (Option.some.inj e)⟩
    · rw [List.getElem?_set_ne q] at e
      obtain ⟨b, e1, D, hr⟩ := R.dictP j ks e
      exact ⟨b, e1, D.mono R S Apart.none fun o' e' => hk b o' (fun z => q (nodup_idx R.inj ha (z ▸ e1))) e', hr⟩
  · refine hk b o' (fun z => ?_) (R.based b o' e)
    have := R.new a (List.mem_of_getElem? ha); rw [← z, e] at this; cases this

theorem SR.updL {i : Nat} {xs : List V} {ys : List V} {vs : List Value} {a : Addr} (R : SR B σ φ h) (hi : σ[i]? = some (.lst xs)) (ha : φ[i]? = some a)
    (hk : ∀ b o, b ≠ a → h.get? b = some o → h₁.get? b = some o) (hl : h₁.PlainList a vs.toArray) (r : VRs B σ φ h ys vs) (hx : ys.length ≤ roomy) :
    SR B (σ.set i (.lst ys)) φ h₁ ∧ Stp W σ φ h (σ.set i (.lst ys)) φ h₁ := by
  obtain ⟨n, ho⟩ := id hl
  exact ⟨R.updAny hi (by intro x; cases x) ha hk ho (fun zs e => by cases e; exact ⟨vs, hl, r, hx⟩) (fun ks e => by cases e) (fun ks e => by cases e), Stp.upd hi (by intro x; cases x) ha hk ⟨_, ho⟩⟩

/-- a live list is frozen -/
theorem SR.freeze {i : Nat} {xs : List V} (R : SR B σ φ h) (hi : σ[i]? = some (.lst xs)) :
    SR B (σ.set i .dead) φ h ∧ Stp W σ φ h (σ.set i .dead) φ h ∧ ∃ a, φ[i]? = some a ∧ VR B (σ.set i .dead) φ h (.lst xs) (.ref a) := by
  obtain ⟨a, vs, ha, hl, r, hx⟩ := R.lst i xs hi
  obtain ⟨n, ho⟩ := id hl
  have hlt : i < σ.length := (List.getElem?_eq_some_iff.mp hi).1
  have S : ∀ W, Stp W σ φ h (σ.set i .dead) φ h := fun W => Stp.upd hi (by intro x; cases x) ha (fun _ _ _ e => e) ⟨_, ho⟩
  refine ⟨R.updAny hi (by intro x; cases x) ha (fun _ _ _ e => e) ho (fun zs e => by cases e) (fun ks e => by cases e) (fun ks e => by cases e), S W, a, ha, .lst hl ⟨?_, R.avn a (List.mem_of_getElem? ha)⟩ (r.mono R (S W0) Apart.none) hx⟩
  rintro ⟨j, c, e1, e2, e3⟩
  have q : i = j := nodup_idx R.inj ha e3
  subst q
  rw [List.getElem?_set_self hlt] at e1
  exact e2 (Option.some.inj e1).symm
end

end Mine

namespace Mine
open PySem PyProof.Rows PySem.Calls

/-- whatever is made, the heap only grows -/
noncomputable def Grow (B : Bs) (σ : Sg) (φ : List Addr) (s : Shared) (v : V) (Q : Value → Shared → Prop) : Prop :=
  ∀ cv h' tk, (∀ b o, s.heap.get? b = some o → h'.get? b = some o) → VR B σ φ h' v cv → Q cv { s with heap := h', toks := tk }

noncomputable def bop : Bop → Operator
  | .add => .Add | .sub => .Sub | .mul => .Mult | .fdiv => .FloorDiv | .mod => .Mod

theorem roomy_eq : roomy = sizeLine := by decide

section
variable {prog : Program} {w : World} {A : Around} {E : Value → Shared → Prop} {s : Shared} {B : Bs} {σ : Sg} {φ : List Addr} {Q : Value → Shared → Prop}

theorem getL_VR {h : Heap} {v : V} {cv : Value} {xs : List V} (R : SR B σ φ h) (e : getL σ v = some xs) (r : VR B σ φ h v cv) :
    ∃ a vs, cv = .ref a ∧ h.PlainList a (List.toArray vs) ∧ VRs B σ φ h xs vs ∧ xs.length ≤ roomy := by
  cases r with
  | lst hl nl rs hn => cases e; exact ⟨_, _, rfl, hl, rs, hn⟩
  | ref hi =>
    rename_i i a
    unfold getL at e
    dsimp only at e
    split at e
    · rename_i ys hy
      cases e
      obtain ⟨a', vs, e1, e2, e3, e4⟩ := R.lst i xs hy
      rw [hi] at e1; cases e1
      exact ⟨_, vs, rfl, e2, e3, e4⟩
    · cases e
  | _ => cases e

theorem push_keeps (h : Heap) (o : Obj) : ∀ b o', h.get? b = some o' → (h.push o).get? b = some o' := fun _ _ e => Heap.get?_push_of_some _ e
theorem get_size (h : Heap) : h.get? h.objs.size = none := by
  cases e : h.get? h.objs.size with
  | none => rfl
  | some o => exact absurd (Heap.lt_size e) (Nat.lt_irrefl _)

/-- a new plain list of related items is a frozen list -/
theorem VR.newLst {xs : List V} {vs : List Value} (R : SR B σ φ s.heap) (r : VRs B σ φ s.heap xs vs) (hn : xs.length ≤ roomy) (n : Nat) :
    VR B σ φ (s.heap.push { cls := .type "list", data := .seq vs.toArray n }) (.lst xs) (.ref s.heap.objs.size) := by
  refine .lst ⟨n, Heap.get?_push_size _ rfl⟩ ⟨fun L => ?_, fun hv => ?_⟩ (r.grow R (push_keeps _ _)) hn
  · obtain ⟨o, ho⟩ := R.ex _ L.mem
    rw [get_size] at ho; cases ho
  · obtain ⟨o, ho⟩ := R.avx _ hv
    rw [get_size] at ho; cases ho
theorem VR.newTup {xs : List V} {vs : List Value} (R : SR B σ φ s.heap) (r : VRs B σ φ s.heap xs vs) (hn : xs.length ≤ roomy) (n : Nat) :
    VR B σ φ (s.heap.push { cls := .type "tuple", data := .seq vs.toArray n }) (.tup xs) (.ref s.heap.objs.size) :=
  .tup ⟨n, Heap.get?_push_size _ rfl⟩ (r.grow R (push_keeps _ _)) hn

theorem VRs.flat {h : Heap} {xs : List V} {vs : List Value} (r : VRs B σ φ h xs vs) : ∀ n : Nat, VRs B σ φ h (List.replicate n xs).flatten (List.replicate n vs).flatten
  | 0 => .nil
  | n + 1 => by rw [List.replicate_succ, List.replicate_succ, List.flatten_cons, List.flatten_cons]; exact r.append (VRs.flat r n)

theorem small_lo {i : Int} (h : small i = true) : -4611686018427387904 < i ∧ i < 4611686018427387904 := by
  unfold small at h
  have := Nat.le_of_ble_eq_true h
  omega

theorem foldl_app {α : Type} (l : List (Array α)) (acc : Array α) : l.foldl (· ++ ·) acc = acc ++ (l.map (·.toList)).flatten.toArray := by
  induction l generalizing acc with
  | nil => simp
  | cons x l ih => rw [List.foldl_cons, ih, List.map_cons, List.flatten_cons]; apply Array.ext'; simp

theorem flatten_replicate_nil {α : Type} (n : Nat) : (List.replicate n ([] : List α)).flatten = [] := by
  induction n with
  | zero => rfl
  | succ n ih => rw [List.replicate_succ, List.flatten_cons, ih]; rfl
theorem length_flat {α : Type} (n : Nat) (xs : List α) : (List.replicate n xs).flatten.length = n * xs.length := by
  induction n with
  | zero => simp
  | succ n ih => rw [List.replicate_succ, List.flatten_cons, List.length_append, ih, Nat.succ_mul]; omega

theorem txtMul (a : List Nat) (n : Int) : Txt.mul ⟨a.toArray⟩ n = ⟨(List.replicate n.toNat a).flatten.toArray⟩ := by
  unfold Txt.mul
  split
  · rename_i h
    have : n.toNat = 0 := by omega
    rw [this]; rfl
  · split
    · rename_i h h'
      simp only [Bool.or_eq_true, beq_iff_eq] at h'
      rcases h' with h' | h'
      · subst h'; simp
      · have ha : a = [] := by
          have e : a.length = 0 := by simpa [Str.length] using h'
          exact List.eq_nil_of_length_eq_zero e
        subst ha
        rw [flatten_replicate_nil]
    · rw [foldl_app]
      simp

theorem mul_plain {l : Addr} {items : Array Value} {k : Nat} {x : Int} {u : Tok}
    (hl : s.heap.get? l = some { cls := .type "list", dict := none, data := .seq items k, slots := #[] })
    (hlo : -(2 ^ 63 : Int) ≤ x) (hhi : x < 2 ^ 63) (hsz : items.size * x.toNat ≤ 2 ^ 24)
    (h : Q (.ref s.heap.objs.size) { s with heap := s.heap.push { cls := .type "list", data := .seq (List.foldl (fun x1 x2 => x1 ++ x2) #[] (List.replicate (if items.isEmpty = true then 0 else x.toNat) items)) } }) :
    wpAny (model prog w) A (binaryOp .Mult (.ref l) (.int x u)) Q E s :=
  wpAny_binaryOp_repeat_ref (T := "list") (U := "int") (by decide) ⟨_, hl, rfl⟩ (fun s' => typeIs_int s' x u) noFill_list_mul F.fills_int_mul F.slot_int_rmul repeat_list F.slot_int_index.lookup
    (call_meets F.slot_int_rmul (typeIs_int s x u) F.entry_int_rmul (F.args_int_rmul_2 _ _) (int___rmul___int_list x u l items k)
      ⟨hl, rfl, ⟨_, hl, rfl⟩, call_meets F.slot_list_mul ⟨_, hl, rfl⟩ F.entry_list_mul (F.args_list_mul_2 _ _)
        (AutoListH.list___mul___list_int_3 l items k x u (by simp [Builtin.List.listFitsIndex]; omega) (by omega) (by simp [Builtin.List.listTooLong, sizeLine]; omega)) ⟨hl, h⟩⟩)

theorem same_heap {h : Heap} : ∀ b o, h.get? b = some o → h.get? b = some o := fun _ _ e => e
theorem op_addL {a b v : V} {ca cb : Value} (hv : ((getL σ a).bind fun xs => (getL σ b).bind fun ys => addL xs ys) = some v) (R : SR B σ φ s.heap) (ra : VR B σ φ s.heap a ca) (rb : VR B σ φ s.heap b cb)
    (h : Grow B σ φ s v Q) : wpAny (model prog w) A (binaryOp (bop .add) ca cb) Q E s := by
  obtain ⟨xs, hx, hv⟩ := Option.bind_eq_some_iff.mp hv
  obtain ⟨ys, hy, hv⟩ := Option.bind_eq_some_iff.mp hv
  obtain ⟨l, vs, rfl, ⟨k, hl⟩, rs, hn⟩ := getL_VR R hx ra
  obtain ⟨l', ws, rfl, ⟨k', hl'⟩, rs', hn'⟩ := getL_VR R hy rb
  by_cases hs : xs.length + ys.length ≤ roomy
  · rw [addL, if_pos hs] at hv
    cases hv
    refine P.add_list hl hl' ?_ ?_
    · have e : vs.toArray ++ ws.toArray = (vs ++ ws).toArray := by simp
      rw [e]
      exact h _ _ _ (push_keeps _ _) (VR.newLst R (rs.append rs') (by rw [List.length_append]; exact hs) 0)
    · rw [List.size_toArray, List.size_toArray, rs.length, rs'.length, ← roomy_eq]; exact hs
  · rw [addL, if_neg hs] at hv; cases hv
theorem op_add {a b v : V} {ca cb : Value} (hv : vAdd σ a b = some v) (R : SR B σ φ s.heap) (ra : VR B σ φ s.heap a ca) (rb : VR B σ φ s.heap b cb)
    (h : Grow B σ φ s v Q) : wpAny (model prog w) A (binaryOp (bop .add) ca cb) Q E s := by
  cases ra with
  | int i t => cases rb with
    | int j t' => cases hv; exact P.add_int (h _ _ _ same_heap (.int _ _))
    | _ => cases hv
  | str x t hx => cases rb with
    | str y t' hy =>
      replace hv : (if x.length + y.length ≤ roomy then some (V.str (x ++ y)) else none) = some v := hv
      by_cases hs : x.length + y.length ≤ roomy
      · rw [if_pos hs] at hv
        cases hv
        refine SB.add (fun t' k => ?_) ?_
        · have e : (⟨x.toArray⟩ : Str) ++ (⟨y.toArray⟩ : Str) = ⟨(x ++ y).toArray⟩ := by
            show Str.append _ _ = _
            unfold Str.append
            simp
          rw [e]
          exact h _ _ _ same_heap (.str _ _ (by rw [List.length_append]; exact hs))
        · simpa [Str.length, ← roomy_eq] using hs
      · rw [if_neg hs] at hv; cases hv
    | _ => cases hv
  | lst h1 h2 h3 h4 => exact op_addL (show ((getL σ (.lst _)).bind fun xs => (getL σ b).bind fun ys => addL xs ys) = some v from hv) R (.lst h1 h2 h3 h4) rb h
  | ref h1 => exact op_addL hv R (.ref h1) rb h
  | _ => cases hv
theorem op_sub {a b v : V} {ca cb : Value} (hv : ii (fun a b => some (.int (a - b))) a b = some v) (R : SR B σ φ s.heap) (ra : VR B σ φ s.heap a ca) (rb : VR B σ φ s.heap b cb)
    (h : Grow B σ φ s v Q) : wpAny (model prog w) A (binaryOp (bop .sub) ca cb) Q E s := by
  obtain ⟨i, j, rfl, rfl, hv⟩ := ii_some hv
  cases hv; cases ra; cases rb; exact P.sub_int (h _ _ _ same_heap (.int _ _))
theorem op_mulI {a b : Int} {t u : Tok} (hs : (small a || small b) = true) (h : Grow B σ φ s (.int (a * b)) Q) : wpAny (model prog w) A (binaryOp (bop .mul) (.int a t) (.int b u)) Q E s := by
  refine P.mul_int (h _ _ _ same_heap (.int _ _)) ?_
  rw [Bool.or_eq_true] at hs
  rcases hs with hs | hs
  · have := small_lo hs
    exact IntMulOk.of_left (intBits_le_64 (by omega) (by omega))
  · have := small_lo hs
    exact IntMulOk.of_right (intBits_le_64 (by omega) (by omega))
theorem op_mulS {a : List Nat} {n : Int} {t u : Tok} (hs : (decide (a.length * n.toNat ≤ roomy) && small n) = true) (h : Grow B σ φ s (.str (List.replicate n.toNat a).flatten) Q) : wpAny (model prog w) A (binaryOp (bop .mul) (.str ⟨a.toArray⟩ t) (.int n u)) Q E s := by
  rw [Bool.and_eq_true, decide_eq_true_eq] at hs
  have hsm := small_lo hs.2
  have hl : (Str.length ⟨a.toArray⟩ : Nat) = a.length := by simp [Str.length]
  refine SB.mul ⟨?_, fun h1 h2 => ?_, fun h1 h2 => ?_⟩ fun t' k => ?_
  · rw [Bool.or_eq_false_iff]; exact ⟨decide_eq_false (by omega), decide_eq_false (by omega)⟩
  · intro hgt
    rw [hl] at hgt
    have h3 : (a.length : Int) * n ≤ 16777216 := by
      have : a.length * n.toNat ≤ 16777216 := hs.1
      have hn : (n.toNat : Int) = n := by omega
      calc (a.length : Int) * n = ((a.length * n.toNat : Nat) : Int) := by rw [Int.natCast_mul, hn]
        _ ≤ 16777216 := Int.ofNat_le.mpr this
    have h4 : (2 ^ 63 - 1 : Int) / n < a.length := hgt
    have h5 := (Int.ediv_lt_iff_lt_mul (by omega : (0 : Int) < n)).mp h4
    omega
  · rw [hl]
    have : a.length * n.toNat ≤ 16777216 := hs.1
    exact decide_eq_false (by show ¬ _ > sizeLine; rw [← roomy_eq]; exact Nat.not_lt.mpr this)
  · rw [txtMul]
    exact h _ _ _ same_heap (.str _ _ (by rw [length_flat, Nat.mul_comm]; exact hs.1))
theorem op_mulL {a v : V} {ca : Value} {n : Int} {u : Tok} (hv : ((getL σ a).bind fun xs => mulL xs n) = some v) (R : SR B σ φ s.heap) (ra : VR B σ φ s.heap a ca) (h : Grow B σ φ s v Q) : wpAny (model prog w) A (binaryOp (bop .mul) ca (.int n u)) Q E s := by
  obtain ⟨xs, hx, hv⟩ := Option.bind_eq_some_iff.mp hv
  by_cases hs : (decide (xs.length * n.toNat ≤ roomy) && small n) = true
  · rw [mulL, if_pos hs] at hv
    cases hv
    obtain ⟨l, vs, rfl, ⟨k, hl⟩, rs, hn⟩ := getL_VR R hx ra
    rw [Bool.and_eq_true, decide_eq_true_eq] at hs
    have hsm := small_lo hs.2
    have hsz : vs.toArray.size * n.toNat ≤ 2 ^ 24 := by rw [List.size_toArray, rs.length]; exact hs.1
    refine mul_plain hl (by omega) (by omega) hsz ?_
    have e : List.foldl (fun x1 x2 => x1 ++ x2) #[] (List.replicate (if vs.toArray.isEmpty = true then 0 else n.toNat) vs.toArray) = (List.replicate n.toNat vs).flatten.toArray := by
      rw [foldl_app]
      by_cases hv : vs = []
      · subst hv; simp
      · have : vs.toArray.isEmpty = false := by simpa using hv
        rw [this]; simp
    rw [e]
    exact h _ _ _ (push_keeps _ _) (VR.newLst R (rs.flat _) (by rw [length_flat, Nat.mul_comm]; exact hs.1) 0)
  · rw [mulL, if_neg hs] at hv; cases hv
theorem of_if {α : Type} {c : Prop} [Decidable c] {x y : α} (h : (if c then some x else none) = some y) : c ∧ x = y := by
  by_cases hc : c
  · rw [if_pos hc] at h; exact ⟨hc, Option.some.inj h⟩
  · rw [if_neg hc] at h; cases h
theorem op_mul {a b v : V} {ca cb : Value} (hv : vMul σ a b = some v) (R : SR B σ φ s.heap) (ra : VR B σ φ s.heap a ca) (rb : VR B σ φ s.heap b cb)
    (h : Grow B σ φ s v Q) : wpAny (model prog w) A (binaryOp (bop .mul) ca cb) Q E s := by
  cases rb with
  | int n u => cases ra with
    | int i t => obtain ⟨hs, rfl⟩ := of_if (show (if small i || small n then some (V.int (i * n)) else none) = some v from hv); exact op_mulI hs h
    | str x t hx => obtain ⟨hs, rfl⟩ := of_if (show (if (decide (x.length * n.toNat ≤ roomy) && small n) = true then some (V.str (List.replicate n.toNat x).flatten) else none) = some v from hv); exact op_mulS hs h
    | lst h1 h2 h3 h4 => exact op_mulL (show ((getL σ (.lst _)).bind fun xs => mulL xs n) = some v from hv) R (.lst h1 h2 h3 h4) h
    | ref h1 => exact op_mulL hv R (.ref h1) h
    | _ => cases hv
  | _ => cases hv
theorem op_fdiv {a b v : V} {ca cb : Value} (hv : ii (fun a b => if small b && b != 0 then some (.int (a.fdiv b)) else none) a b = some v) (R : SR B σ φ s.heap) (ra : VR B σ φ s.heap a ca) (rb : VR B σ φ s.heap b cb)
    (h : Grow B σ φ s v Q) : wpAny (model prog w) A (binaryOp (bop .fdiv) ca cb) Q E s := by
  obtain ⟨i, j, rfl, rfl, hv⟩ := ii_some hv
  obtain ⟨hs, rfl⟩ := of_if hv
  cases ra; cases rb
  rw [Bool.and_eq_true, bne_iff_ne] at hs
  have := small_lo hs.1
  refine floordiv_int hs.2 (h _ _ _ same_heap (.int _ _)) (.inl (PyProof.noPylong_of_log2 ?_))
  have hb : j.natAbs < 2 ^ 62 := by omega
  have h0 : j.natAbs ≠ 0 := Int.natAbs_ne_zero.mpr hs.2
  exact Nat.lt_of_lt_of_le ((Nat.log2_lt h0).mpr hb) (by decide)
theorem op_mod {a b v : V} {ca cb : Value} (hv : ii (fun a b => if b != 0 then some (.int (a.fmod b)) else none) a b = some v) (R : SR B σ φ s.heap) (ra : VR B σ φ s.heap a ca) (rb : VR B σ φ s.heap b cb)
    (h : Grow B σ φ s v Q) : wpAny (model prog w) A (binaryOp (bop .mod) ca cb) Q E s := by
  obtain ⟨i, j, rfl, rfl, hv⟩ := ii_some hv
  obtain ⟨hs, rfl⟩ := of_if hv
  cases ra; cases rb
  exact mod_int' (bne_iff_ne.mp hs) (h _ _ _ same_heap (.int _ _))
theorem op_bin {op : Bop} {a b v : V} {ca cb : Value} (hv : vBin σ op a b = some v) (R : SR B σ φ s.heap) (ra : VR B σ φ s.heap a ca) (rb : VR B σ φ s.heap b cb)
    (h : Grow B σ φ s v Q) : wpAny (model prog w) A (binaryOp (bop op) ca cb) Q E s := by
  cases op with
  | add => exact op_add hv R ra rb h
  | sub => exact op_sub hv R ra rb h
  | mul => exact op_mul hv R ra rb h
  | fdiv => exact op_fdiv hv R ra rb h
  | mod => exact op_mod hv R ra rb h
end

end Mine

namespace Mine
open PySem PyProof.Rows PySem.Calls

section
variable {prog : Program} {w : World} {A : Around} {E : Value → Shared → Prop} {s : Shared} {B : Bs} {σ : Sg} {φ : List Addr} {Q : Value → Shared → Prop} {h : Heap}

theorem str_beq (x y : List Nat) : ((⟨x.toArray⟩ : Str) == (⟨y.toArray⟩ : Str)) = (x == y) := by
  by_cases e : x = y
  · subst e; simp
  · have h1 : (x == y) = false := by simpa using e
    rw [h1]
    have : (⟨x.toArray⟩ : Str) ≠ ⟨y.toArray⟩ := fun q => e (by simpa using q)
    simpa using this

noncomputable def cop : Cop → CmpOp
  | .eq => .Eq | .ne => .NotEq | .lt => .Lt | .le => .LtE | .gt => .Gt | .ge => .GtE | .isin => .In | .notin => .NotIn | .is => .Is | .isnot => .IsNot

theorem op_eqG {a b : V} {ca cb : Value} {t : Bool} (hv : vEqG σ a b = some t) (R : SR B σ φ s.heap) (ra : VR B σ φ s.heap a ca) (rb : VR B σ φ s.heap b cb) (hu : A.units + 64 < cLine)
    (h : Q (.bool t) s) : wpAny (model prog w) A (compareOp .Eq ca cb) Q E s := by
  cases hv
theorem op_eq {a b : V} {ca cb : Value} {t : Bool} (hv : vEq σ a b = some t) (R : SR B σ φ s.heap) (ra : VR B σ φ s.heap a ca) (rb : VR B σ φ s.heap b cb) (hu : A.units + 64 < cLine)
    (h : Q (.bool t) s) : wpAny (model prog w) A (compareOp .Eq ca cb) Q E s := by
  cases a with
  | none => cases b with
    | none => cases hv; cases ra; cases rb; exact EqNone.eq_none_none h
    | _ => exact op_eqG (show vEqG σ _ _ = some t from hv) R ra rb hu h
  | bool x => cases b with
    | bool y => cases hv; cases ra; cases rb; exact eq_bool h
    | _ => exact op_eqG (show vEqG σ _ _ = some t from hv) R ra rb hu h
  | int x => cases b with
    | int y => cases hv; cases ra; cases rb; exact P.eq_int h
    | _ => exact op_eqG (show vEqG σ _ _ = some t from hv) R ra rb hu h
  | str x => cases b with
    | str y => cases hv; cases ra; cases rb; exact eq_str (by rw [str_beq]; exact h)
    | _ => exact op_eqG (show vEqG σ _ _ = some t from hv) R ra rb hu h
  | _ => exact op_eqG (show vEqG σ _ _ = some t from hv) R ra rb hu h
theorem op_neG {a b : V} {ca cb : Value} {t : Bool} (hv : vEqG σ a b = some t) (R : SR B σ φ s.heap) (ra : VR B σ φ s.heap a ca) (rb : VR B σ φ s.heap b cb) (hu : A.units + 64 < cLine)
    (h : Q (.bool (!t)) s) : wpAny (model prog w) A (compareOp .NotEq ca cb) Q E s := by
  cases hv
theorem op_ne {a b : V} {ca cb : Value} {t : Bool} (hv : vEq σ a b = some t) (R : SR B σ φ s.heap) (ra : VR B σ φ s.heap a ca) (rb : VR B σ φ s.heap b cb) (hu : A.units + 64 < cLine)
    (h : Q (.bool (!t)) s) : wpAny (model prog w) A (compareOp .NotEq ca cb) Q E s := by
  cases a with
  | none => cases b with
    | none => cases hv; cases ra; cases rb; exact EqNone.ne_none_none h
    | _ => exact op_neG (show vEqG σ _ _ = some t from hv) R ra rb hu h
  | bool x => cases b with
    | bool y => cases hv; cases ra; cases rb; exact ne_bool h
    | _ => exact op_neG (show vEqG σ _ _ = some t from hv) R ra rb hu h
  | int x => cases b with
    | int y => cases hv; cases ra; cases rb; exact P.ne_int h
    | _ => exact op_neG (show vEqG σ _ _ = some t from hv) R ra rb hu h
  | str x => cases b with
    | str y => cases hv; cases ra; cases rb; exact ne_str (by show Q (.bool (!((⟨_⟩ : Str) == ⟨_⟩))) s; rw [str_beq]; exact h)
    | _ => exact op_neG (show vEqG σ _ _ = some t from hv) R ra rb hu h
  | _ => exact op_neG (show vEqG σ _ _ = some t from hv) R ra rb hu h
end

end Mine

namespace Mine
open PySem PyProof.Rows PySem.Calls

section
variable {prog : Program} {w : World} {A : Around} {E : Value → Shared → Prop} {s : Shared} {B : Bs} {σ : Sg} {φ : List Addr} {Q : Value → Shared → Prop} {h : Heap}

/-- texts among texts -/
theorem reads_strs : ∀ {xs : List V} {vs : List Value} {l : List (List Nat)}, strsV xs = some l → VRs B σ φ h xs vs → ∃ as, ReadsAll h vs (l.map fun y => PyData.str ⟨y.toArray⟩) as
  | _, _, _, e, .nil => by cases e; exact ⟨_, .nil⟩
  | _, _, _, e, .cons a r => by
    cases a with
    | str x t hs =>
      obtain ⟨l', e1, e2⟩ := Option.map_eq_some_iff.mp e
      subst e2
      obtain ⟨as, q⟩ := reads_strs e1 r
      exact ⟨_, .cons (.str _ t) q⟩
    | _ => cases e
theorem strs_lay : ∀ {l : List (List Nat)}, l.all strFine = true → PyData.canLayAll0 (l.map fun y => PyData.str ⟨y.toArray⟩) = true
  | [], _ => rfl
  | x :: r, hl => by
    rw [List.all_cons, Bool.and_eq_true] at hl
    rw [List.map_cons, PyData.canLayAll0, strs_lay hl.2, Bool.and_true, PyData.canLay0]
    simpa [PyData.strOk, strFine] using hl.1
theorem strs_any {z : List Nat} : ∀ (l : List (List Nat)), ((l.map fun y => PyData.str ⟨y.toArray⟩).any fun y => PyData.eqv y (.str ⟨z.toArray⟩)) = l.any fun y => y == z
  | [] => rfl
  | x :: r => by rw [List.map_cons, List.any_cons, List.any_cons, strs_any r, PyData.eqv, str_beq]
theorem op_in_strs {z : List Nat} {c : V} {cx cc : Value} {ys : List V} {l : List (List Nat)} {t : Bool} (hc : c = .lst ys ∨ c = .tup ys ∨ ∃ i, c = .ref i ∧ σ[i]? = some (.lst ys)) (hl : strsV ys = some l) (hz : strFine z = true) (hf : l.all strFine = true)
    (ht : t = l.any fun y => y == z) (R : SR B σ φ s.heap) (rx : VR B σ φ s.heap (.str z) cx) (rc : VR B σ φ s.heap c cc) (hu : A.units + 64 < cLine) :
    (Q (.bool t) s → wpAny (model prog w) A (compareOp .In cx cc) Q E s) ∧ (Q (.bool (!t)) s → wpAny (model prog w) A (compareOp .NotIn cx cc) Q E s) := by
  have qx : ∃ as, Reads s.heap cx (.str ⟨z.toArray⟩) as := by cases rx with | str _ tk _ => exact ⟨_, .str _ tk⟩
  obtain ⟨as, qx⟩ := qx
  have l1 : (PyData.str ⟨z.toArray⟩).canLay0 = true := by rw [PyData.canLay0]; simpa [PyData.strOk, strFine] using hz
  have hu' : A.units + 1 + min (PyData.depthAll (l.map fun y => PyData.str ⟨y.toArray⟩)) (PyData.str ⟨z.toArray⟩).depth < cLine := by
    have := Nat.min_le_right (PyData.depthAll (l.map fun y => PyData.str ⟨y.toArray⟩)) (PyData.str ⟨z.toArray⟩).depth
    have e : (PyData.str ⟨z.toArray⟩).depth ≤ 5 := by simp [PyData.depth]
    omega
  have key : (∃ bs, Reads s.heap cc (.list (l.map fun y => PyData.str ⟨y.toArray⟩)) bs) ∨ ∃ bs, Reads s.heap cc (.tuple (l.map fun y => PyData.str ⟨y.toArray⟩)) bs := by
    rcases hc with rfl | rfl | ⟨i, rfl, hi⟩
    · cases rc with
      | lst he _ rs _ =>
        obtain ⟨n, e⟩ := he
        obtain ⟨bs, q⟩ := reads_strs hl rs
        exact .inl ⟨_, .list e rfl rfl (by simpa using q)⟩
    · cases rc with
      | tup he rs _ =>
        obtain ⟨n, e⟩ := he
        obtain ⟨bs, q⟩ := reads_strs hl rs
        exact .inr ⟨_, .tuple e rfl rfl (by simpa using q)⟩
    · cases rc with
      | ref ha =>
        obtain ⟨a', vs, e1, ⟨k, e2⟩, e3, _⟩ := R.lst i ys hi
        rw [ha] at e1; cases e1
        obtain ⟨bs, q⟩ := reads_strs hl e3
        exact .inl ⟨_, .list e2 rfl rfl (by simpa using q)⟩
  rcases key with ⟨bs, q⟩ | ⟨bs, q⟩
  · exact ⟨fun hq => SeqAt.in_list_reads q qx (strs_lay hf) l1 hu' (by rw [strs_any, ← ht]; exact hq), fun hq => SeqAt.notIn_list_reads q qx (strs_lay hf) l1 hu' (by rw [strs_any, ← ht]; exact hq)⟩
  · exact ⟨fun hq => SeqAt.in_tuple_reads q qx (strs_lay hf) l1 hu' (by rw [strs_any, ← ht]; exact hq), fun hq => SeqAt.notIn_tuple_reads q qx (strs_lay hf) l1 hu' (by rw [strs_any, ← ht]; exact hq)⟩

theorem op_truthy {v : V} {cv : Value} {t : Bool} {Q : Bool → Shared → Prop} (hv : vTrue σ v = some t) (R : SR B σ φ s.heap) (r : VR B σ φ s.heap v cv)
    (hq : ∀ tk, Q t { s with toks := tk }) : wpAny (model prog w) A (truthy cv) Q E s := by
  have room : ∀ n : Nat, n ≤ roomy → ((n : Nat) : Int) < 2 ^ 63 := fun n hn => by unfold roomy at hn; omega
  have lst : ∀ (a : Addr) (xs : List V) (vs : List Value), s.heap.PlainList a vs.toArray → VRs B σ φ s.heap xs vs → xs.length ≤ roomy → t = (!xs.isEmpty) → wpAny (model prog w) A (truthy (.ref a)) Q E s := by
    intro a xs vs hl rs hn ht
    have e := rs.length
    refine wpAny_truthy_list hl.isList (by rw [List.size_toArray, e]; exact room _ hn) ?_
    have e2 : (!vs.toArray.isEmpty) = t := by
      rw [ht]
      cases rs with
      | nil => rfl
      | cons _ _ => rfl
    rw [e2]; exact hq _
  cases r with
  | none => cases hv; exact fun _ _ _ => hq s.toks
  | bool b => cases hv; exact wpAny_truthy_bool (hq s.toks)
  | int i t => cases hv; exact P.truthy_int (hq s.toks)
  | str x t hs =>
    cases hv
    refine P.truthy_str (by have := room _ hs; simpa [Str.length] using this) ?_
    have e : (((⟨x.toArray⟩ : Str).length : Int) != 0) = (!x.isEmpty) := by
      cases x with
      | nil => rfl
      | cons c r => simp [Str.length]; omega
    rw [e]; exact hq _
  | tup ht rs hn => cases hv
  | lst hl nl rs hn => cases hv; exact lst _ _ _ hl rs hn rfl
  | ref hi =>
    rename_i i a
    unfold vTrue at hv
    dsimp only at hv
    split at hv
    · rename_i xs hx
      obtain ⟨a', vs, e1, e2, e3, e4⟩ := R.lst i xs hx
      rw [hi] at e1; cases e1
      exact lst _ _ _ e2 e3 e4 (Option.some.inj hv).symm
    · cases hv
  | exc a b c d => cases hv

theorem room63 {n : Nat} (hn : n ≤ roomy) : ((n : Nat) : Int) < 2 ^ 63 := by unfold roomy at hn; omega

/-- len of a dict, whatever its keys -/
theorem len_dictAny {d : Addr} {o : Obj} {es : Array DictEntry} {ep : Nat} (hd : (d == sysModules) = false) (ho : s.heap.get? d = some o) (hc : o.cls = .type "dict") (hdat : o.data = .dict es ep) (hfit : (es.size : Int) < 2 ^ 63)
    (h : Q (.int es.size (s.toks + 1)) { s with toks := s.toks + 1 + 1 }) : wpAny (model prog w) A (call (.builtin "len") [.ref d]) Q E s := by
  have meets : MeetsIn prog w (Builtin.«dict.__len__» ⟨[.ref d], []⟩) (fun _ R s' => s'.heap.get? d = some o ∧ R (.ok (.ret (.int es.size s'.toks))) { s' with toks := s'.toks + 1 }) :=
    .of_wp fun A R s' ⟨hm, h'⟩ => by
      show wpAny _ _ (dictSize d >>= _) _ _ s'
      unfold dictSize
      refine wpAny_bind (wpAny_bind (wpAny_dictEntries hm hdat (wpAny_pure ?_)))
      show wpAny _ _ (Builtin.Dict.pendingCount d >>= _) _ _ s'
      refine wpAny_bind (wpAny_pendingCount_other hd (wpAny_ret_mkInt ?_))
      rw [Nat.add_zero]; exact h'
  have hT : s.TypeIs (.ref d) "dict" := ⟨o, ho, hc⟩
  refine Calls.call_function_entry kind_len plain_len entry_len (args_len1 _) ?_
  unfold Builtin.«len»
  refine wpAny_bind (m := oneArg "len" _) (wpAny_pure ?_)
  refine wpAny_bind (m := callSpecial? (.ref d) (Str.ofString "__len__")) (wpAny_callSpecial?_slot (name := Str.ofString "__len__") hT F.slot_dict_len
    (call_meetsIn F.slot_dict_len hT F.entry_dict_len (F.args_dict_len_1 _) meets ⟨ho, ?_⟩))
  show wpAny _ _ _ _ _ { s with toks := s.toks + 1 }
  refine wpAny_bind (wpAny_holding (wpAny_pure ?_))
  refine wpAny_bind (wpAny_letGo ?_)
  show wpAny _ _ (if ((es.size : Nat) : Int) < 0 then _ else _) _ _ _
  rw [if_neg (by omega)]
  show wpAny _ _ (if ((es.size : Nat) : Int) ≥ 2 ^ 63 then _ else _) _ _ _
  rw [if_neg (by omega)]
  exact wpAny_bind (wpAny_mkInt (wpAny_pure ⟨_, rfl, h⟩))

theorem op_len {v : V} {cv : Value} {n : Nat} (hv : vLen σ v = some n) (hB : prog = B.prog ∧ w = B.w) (R : SR B σ φ s.heap) (r : VR B σ φ s.heap v cv)
    (hq : Grow B σ φ s (.int n) Q) : wpAny (model prog w) A (call (.builtin "len") [cv]) Q E s := by
  have same : ∀ b o, s.heap.get? b = some o → s.heap.get? b = some o := fun _ _ e => e
  have lst : ∀ (a : Addr) (xs : List V) (vs : List Value), s.heap.PlainList a vs.toArray → VRs B σ φ s.heap xs vs → xs.length ≤ roomy → n = xs.length → wpAny (model prog w) A (call (.builtin "len") [.ref a]) Q E s := by
    intro a xs vs hl rs hn ht
    have e := rs.length
    refine Calls.call_len_list hl.isList (by rw [List.size_toArray, e]; exact room63 hn) ?_
    rw [List.size_toArray, e, ← ht]
    exact hq _ _ _ same (.int _ _)
  cases r with
  | str x t hs =>
    cases hv
    refine P.len_str (by have := room63 hs; simpa [Str.length] using this) ?_
    have e : (⟨x.toArray⟩ : Str).length = x.length := by simp [Str.length]
    rw [e]; exact hq _ _ _ same (.int _ _)
  | tup ht rs hn =>
    cases hv
    have e := rs.length
    refine PyProof.Rows.len_tuple ht.isTup (by rw [List.size_toArray, e]; exact room63 hn) ?_
    rw [List.size_toArray, e]
    exact hq _ _ _ same (.int _ _)
  | lst hl nl rs hn => cases hv; exact lst _ _ _ hl rs hn rfl
  | ref hi =>
    rename_i i a
    unfold vLen at hv
    dsimp only at hv
    split at hv
    · rename_i xs hx
      obtain ⟨a', vs, e1, e2, e3, e4⟩ := R.lst i xs hx
      rw [hi] at e1; cases e1
      exact lst _ _ _ e2 e3 e4 (Option.some.inj hv).symm
    · rename_i ks hk
      cases hv
      obtain ⟨a', e1, ⟨kvs, D, ek⟩, hr⟩ := R.dictI i ks hk
      rw [hi] at e1; cases e1
      have el : kvs.length = ks.length := by rw [← ek, List.length_map]
      obtain ⟨rfl, rfl⟩ := hB
      refine call_len_dict (R.sys _ (List.mem_of_getElem? hi)) D (by rw [el]; exact room63 hr) ?_
      rw [el]; exact hq _ _ _ same (.int _ _)
    · rename_i ks hk
      cases hv
      obtain ⟨a', e1, ⟨kvs, D, ek⟩, hr⟩ := R.dictP i ks hk
      rw [hi] at e1; cases e1
      obtain ⟨o, es, ep, ho, hc, hd, hes, _⟩ := D
      have el : es.size = ks.length := by rw [size_of_entries hes, ← ek, List.length_map]
      refine len_dictAny (R.sys _ (List.mem_of_getElem? hi)) ho hc.1 hd (by rw [el]; exact room63 hr) ?_
      rw [el]; exact hq _ _ _ same (.int _ _)
    · cases hv
  | _ => cases hv

theorem ints_get : ∀ {xs : List V} {l : List Int}, intsV xs = some l → l.length = xs.length ∧ ∀ (i : Nat) (x : V), xs[i]? = some x → ∃ n, l[i]? = some n ∧ x = .int n
  | [], _, e => by cases e; exact ⟨rfl, fun i x e => by simp at e⟩
  | .int i :: r, l, e => by
    rw [intsV, Option.map_eq_some_iff] at e
    obtain ⟨l', e1, rfl⟩ := e
    obtain ⟨h1, h2⟩ := ints_get e1
    refine ⟨by simp [h1], fun k x hk => ?_⟩
    cases k with
    | zero => simp at hk; exact ⟨i, rfl, hk.symm⟩
    | succ k => exact h2 k x (by simpa using hk)
  | .undef :: _, _, e | .none :: _, _, e | .bool _ :: _, _, e | .str _ :: _, _, e | .tup _ :: _, _, e | .lst _ :: _, _, e | .ref _ :: _, _, e | .exc _ :: _, _, e => by cases e
theorem bools_get : ∀ {xs : List V} {l : List Bool}, boolsV xs = some l → l.length = xs.length ∧ ∀ (i : Nat) (x : V), xs[i]? = some x → ∃ n, l[i]? = some n ∧ x = .bool n
  | [], _, e => by cases e; exact ⟨rfl, fun i x e => by simp at e⟩
  | .bool i :: r, l, e => by
    rw [boolsV, Option.map_eq_some_iff] at e
    obtain ⟨l', e1, rfl⟩ := e
    obtain ⟨h1, h2⟩ := bools_get e1
    refine ⟨by simp [h1], fun k x hk => ?_⟩
    cases k with
    | zero => simp at hk; exact ⟨i, rfl, hk.symm⟩
    | succ k => exact h2 k x (by simpa using hk)
  | .undef :: _, _, e | .none :: _, _, e | .int _ :: _, _, e | .str _ :: _, _, e | .tup _ :: _, _, e | .lst _ :: _, _, e | .ref _ :: _, _, e | .exc _ :: _, _, e => by cases e

theorem VRs.getV {xs : List V} {vs : List Value} (r : VRs B σ φ h xs vs) {k : Nat} {v : Value} (e : vs[k]? = some v) : ∃ x, xs[k]? = some x ∧ VR B σ φ h x v := by
  have hk : k < vs.length := (List.getElem?_eq_some_iff.mp e).1
  have hk' : k < xs.length := by rw [← r.length]; exact hk
  obtain ⟨v', e1, e2⟩ := r.get (List.getElem?_eq_getElem hk')
  rw [e] at e1; cases e1
  exact ⟨_, List.getElem?_eq_getElem hk', e2⟩

theorem preSum_list (l : List Int) : ∀ n, n ≤ l.length → preSum (fun i => l.getD i 0) n = (l.take n).sum
  | 0, _ => by simp [preSum]
  | n + 1, hn => by
    rw [preSum, preSum_list l n (by omega)]
    have : l.take (n + 1) = l.take n ++ [l.getD n 0] := by
      rw [List.take_add_one]; simp [List.getD, List.getElem?_eq_getElem (by omega : n < l.length)]
    rw [this, List.sum_append]; simp

/-- the walk over a list of ours, as the built-ins ask for it -/
theorem list_walk {A : Around} {a : Addr} {vs : List Value} (hh : A.handled = none) (hl : s.heap.PlainList a vs.toArray) {K : Value → Shared → Prop}
    (k : Walks prog w A s.heap.objs.size [s.heap.objs.size, a] [s.heap.objs.size] vs.length (fun i v => vs[i]? = some v) (fun i h => h.IsListIter s.heap.objs.size a i ∧ h.IsList a vs.toArray) →
      (∀ b ∈ [s.heap.objs.size, a], b < (s.heap.push { cls := .type "list_iterator", data := .fields #[.ref a, .int 0 0] }).objs.size) →
      ((s.heap.push { cls := .type "list_iterator", data := .fields #[.ref a, .int 0 0] }).IsListIter s.heap.objs.size a 0 ∧ (s.heap.push { cls := .type "list_iterator", data := .fields #[.ref a, .int 0 0] }).IsList a vs.toArray) →
      (∀ (h' : Heap), (∀ b o, b ∉ [s.heap.objs.size] → (s.heap.push { cls := .type "list_iterator", data := .fields #[.ref a, .int 0 0] }).get? b = some o → h'.get? b = some o) → ∀ b o, s.heap.get? b = some o → h'.get? b = some o) →
      K (.ref s.heap.objs.size) { s with heap := s.heap.push { cls := .type "list_iterator", data := .fields #[.ref a, .int 0 0] } }) :
    wpAny (model prog w) A (pyIter (.ref a)) K E s := by
  obtain ⟨n, ho⟩ := id hl
  have ha : a < s.heap.objs.size := Heap.lt_size ho
  refine wpAny_pyIter_list hl.isList (k ?_ ?_ ?_ ?_)
  · have W := Walks.list (prog := prog) (w := w) hh s.heap.objs.size a (Nat.ne_of_lt ha) vs.toArray
    simpa using W
  · intro b hb
    rw [Heap.size_push]
    rcases List.mem_cons.mp hb with rfl | hb
    · exact Nat.lt_succ_self _
    · rw [List.mem_singleton.mp hb]; exact Nat.lt_succ_of_lt ha
  · exact ⟨⟨_, Heap.get?_push_size _ rfl, rfl, rfl⟩, hl.isList.push _⟩
  · intro h' hk b o e
    exact hk b o (fun hb => by rw [List.mem_singleton.mp hb, get_size] at e; cases e) (Heap.get?_push_of_some _ e)

theorem op_sum {v : V} {cv : Value} {xs : List V} {l : List Int} (hx : getL σ v = some xs) (hl : intsV xs = some l) (hh : A.handled = none) (R : SR B σ φ s.heap) (r : VR B σ φ s.heap v cv)
    (hq : Grow B σ φ s (.int l.sum) Q) : wpAny (model prog w) A (call (.builtin "sum") [cv]) Q E s := by
  obtain ⟨a, vs, rfl, hp, rs, hn⟩ := getL_VR R hx r
  obtain ⟨h1, h2⟩ := ints_get hl
  refine call_sum_walkG (list_walk (A := A.in1) hh hp fun W hb hst hk => ⟨_, _, _, _, _, _, fun i => l.getD i 0, rfl, W, hst, hb, fun i u hu => ?_, fun h' tk t' hkeep => ?_⟩)
  · obtain ⟨x, e1, e2⟩ := rs.getV hu
    obtain ⟨n, e3, rfl⟩ := h2 i x e1
    cases e2 with
    | int _ t => exact ⟨t, by simp [List.getD, e3]⟩
  · rw [preSum_list l _ (by rw [h1, rs.length]; exact Nat.le_refl _), rs.length, ← h1, List.take_length]
    exact hq _ _ _ (hk h' hkeep) (.int _ _)

theorem range_all (l : List Bool) : (List.range l.length).all (fun i => l.getD i false) = l.all id := by
  rw [Bool.eq_iff_iff]
  simp only [List.all_eq_true, List.mem_range, id]
  constructor
  · intro h x hx
    obtain ⟨i, hi, rfl⟩ := List.mem_iff_getElem.mp hx
    have := h i hi
    simpa [List.getD, List.getElem?_eq_getElem hi] using this
  · intro h i hi
    simp only [List.getD, List.getElem?_eq_getElem hi, Option.getD_some]
    exact h _ (List.getElem_mem hi)
theorem range_any (l : List Bool) : (List.range l.length).any (fun i => l.getD i false) = l.any id := by
  rw [Bool.eq_iff_iff]
  simp only [List.any_eq_true, List.mem_range, id]
  constructor
  · rintro ⟨i, hi, h⟩
    exact ⟨l[i], List.getElem_mem hi, by simpa [List.getD, List.getElem?_eq_getElem hi] using h⟩
  · rintro ⟨x, hx, h⟩
    obtain ⟨i, hi, rfl⟩ := List.mem_iff_getElem.mp hx
    exact ⟨i, hi, by simpa [List.getD, List.getElem?_eq_getElem hi] using h⟩

theorem op_all {v : V} {cv : Value} {xs : List V} {l : List Bool} (hx : getL σ v = some xs) (hl : boolsV xs = some l) (hh : A.handled = none) (R : SR B σ φ s.heap) (r : VR B σ φ s.heap v cv)
    (hq : Grow B σ φ s (.bool (l.all id)) Q) : wpAny (model prog w) A (call (.builtin "all") [cv]) Q E s := by
  obtain ⟨a, vs, rfl, hp, rs, hn⟩ := getL_VR R hx r
  obtain ⟨h1, h2⟩ := bools_get hl
  refine call_all_walk (list_walk (A := A.in1) hh hp fun W hb hst hk => ⟨_, _, _, _, _, _, fun i => l.getD i false, rfl, W, hst, fun i u s' Q' E' hu hq' => ?_, fun h' tk hkeep => ?_⟩)
  · obtain ⟨x, e1, e2⟩ := rs.getV hu
    obtain ⟨n, e3, rfl⟩ := h2 i x e1
    cases e2 with
    | bool b => exact wpAny_truthy_bool (by simpa [List.getD, e3] using hq')
  · rw [rs.length, ← h1, range_all]
    exact hq _ _ _ (hk h' hkeep) (.bool _)
theorem op_any {v : V} {cv : Value} {xs : List V} {l : List Bool} (hx : getL σ v = some xs) (hl : boolsV xs = some l) (hh : A.handled = none) (R : SR B σ φ s.heap) (r : VR B σ φ s.heap v cv)
    (hq : Grow B σ φ s (.bool (l.any id)) Q) : wpAny (model prog w) A (call (.builtin "any") [cv]) Q E s := by
  obtain ⟨a, vs, rfl, hp, rs, hn⟩ := getL_VR R hx r
  obtain ⟨h1, h2⟩ := bools_get hl
  refine call_any_walk (list_walk (A := A.in1) hh hp fun W hb hst hk => ⟨_, _, _, _, _, _, fun i => l.getD i false, rfl, W, hst, fun i u s' Q' E' hu hq' => ?_, fun h' tk hkeep => ?_⟩)
  · obtain ⟨x, e1, e2⟩ := rs.getV hu
    obtain ⟨n, e3, rfl⟩ := h2 i x e1
    cases e2 with
    | bool b => exact wpAny_truthy_bool (by simpa [List.getD, e3] using hq')
  · rw [rs.length, ← h1, range_any]
    exact hq _ _ _ (hk h' hkeep) (.bool _)

theorem argBest_max (l : List Int) (a : Int) (r : List Int) (e : l = a :: r) : ∀ k, k < l.length → argBest (fun i j => decide (l.getD i 0 > l.getD j 0)) k < l.length ∧
    l.getD (argBest (fun i j => decide (l.getD i 0 > l.getD j 0)) k) 0 = (r.take k).foldl max a
  | 0, hk => by subst e; simp [argBest, List.getD]
  | k + 1, hk => by
    obtain ⟨h1, h2⟩ := argBest_max l a r e k (by omega)
    have hr : k < r.length := by subst e; simpa using hk
    have e1 : r.take (k + 1) = r.take k ++ [r[k]] := by rw [List.take_add_one, List.getElem?_eq_getElem hr]; rfl
    have e2 : l.getD (k + 1) 0 = r[k] := by subst e; simp [List.getD, List.getElem?_eq_getElem hr]
    rw [e1, List.foldl_append, argBest, e2, h2]
    simp only [List.foldl_cons, List.foldl_nil]
    by_cases hgt : r[k] > (r.take k).foldl max a
    · rw [if_pos (by simpa using hgt)]
      exact ⟨hk, by rw [e2]; omega⟩
    · rw [if_neg (by simpa using hgt)]
      exact ⟨h1, by rw [h2]; omega⟩

theorem op_max1 {v : V} {cv : Value} {xs : List V} {a : Int} {l : List Int} (hx : getL σ v = some xs) (hl : intsV xs = some (a :: l)) (hh : A.handled = none) (R : SR B σ φ s.heap) (r : VR B σ φ s.heap v cv)
    (hq : Grow B σ φ s (.int (l.foldl max a)) Q) : wpAny (model prog w) A (call (.builtin "max") [cv]) Q E s := by
  obtain ⟨ad, vs, rfl, hp, rs, hn⟩ := getL_VR R hx r
  obtain ⟨h1, h2⟩ := ints_get hl
  have hlen : vs.length = l.length + 1 := by rw [rs.length, ← h1]; rfl
  have val : ∀ (i : Nat) (u : Value), vs[i]? = some u → ∃ t, u = .int ((a :: l).getD i 0) t := fun i u hu => by
    obtain ⟨x, e1, e2⟩ := rs.getV hu
    obtain ⟨n, e3, rfl⟩ := h2 i x e1
    cases e2 with
    | int _ t => exact ⟨t, by rw [List.getD, e3]; rfl⟩
  refine call_max_walk (list_walk (A := A.in1) hh hp fun W hb hst hk => ⟨_, _, _, _, _, _, fun i j => decide ((a :: l).getD i 0 > (a :: l).getD j 0), rfl, W, hst, hb, by omega, fun i j vi vj s' Q' E' hi hj hq' => ?_, fun u h' tk hu hkeep => ?_⟩)
  · obtain ⟨t, rfl⟩ := val i vi hi
    obtain ⟨t', rfl⟩ := val j vj hj
    exact P.gt_int hq'
  · obtain ⟨t, rfl⟩ := val _ u hu
    have := (argBest_max (a :: l) a l rfl (vs.length - 1) (by rw [List.length_cons]; omega)).2
    rw [hlen, Nat.add_sub_cancel, List.take_length] at this
    rw [hlen, Nat.add_sub_cancel, this]
    exact hq _ _ _ (hk h' hkeep) (.int _ _)

theorem op_min2 {a b : Int} {t u : Tok} (hh : A.handled = none) (hq : Grow B σ φ s (.int (min a b)) Q) : wpAny (model prog w) A (call (.builtin "min") [.int a t, .int b u]) Q E s := by
  refine min_two_ints hh fun h' tk hk => ?_
  have e : min a b = if b < a then b else a := by split <;> omega
  rw [e] at hq
  split <;> rename_i hgt <;> simp only [hgt, if_true, if_false] at hq <;> exact hq _ _ _ hk (.int _ _)

theorem op_tuple {v : V} {cv : Value} {xs : List V} (hx : getL σ v = some xs) (R : SR B σ φ s.heap) (r : VR B σ φ s.heap v cv)
    (hq : Grow B σ φ s (.tup xs) Q) : wpAny (model prog w) A (call (.type "tuple") [cv]) Q E s := by
  obtain ⟨a, vs, rfl, hp, rs, hn⟩ := getL_VR R hx r
  refine call_tuple_list hp.isList (fun h' hk => ?_) (by rw [List.size_toArray, rs.length, ← roomy_eq]; exact hn)
  refine hq _ _ _ (fun b o e => Heap.get?_push_of_some _ (hk b o e)) (.tup ⟨0, Heap.get?_push_size _ rfl⟩ (rs.grow R fun b o e => Heap.get?_push_of_some _ (hk b o e)) hn)
theorem op_int {b : Bool} (hq : Grow B σ φ s (.int (if b then 1 else 0)) Q) : wpAny (model prog w) A (call (.type "int") [.bool b]) Q E s :=
  call_int_bool (hq _ _ _ (fun _ _ e => e) (.int _ _))
noncomputable def isaT : Bi → String
  | .isBool => "bool" | .isInt => "int" | .isStr => "str" | .isTup => "tuple" | _ => "list"

theorem op_isa_bool {v : V} {cv : Value} {t : Bool} (hv : vIsa .isBool v = some t) (r : VR B σ φ s.heap v cv) (k : ∀ tk, Q (.bool t) { s with toks := tk }) : wpAny (model prog w) A (call (.builtin "isinstance") [cv, .type "bool"]) Q E s := by
  cases r with
  | none => cases hv; exact IsiPair.NoneType_bool (k _)
  | bool b => cases hv; exact IsiPair.bool_bool (k _)
  | int i t => cases hv; exact IsiPair.int_bool (k _)
  | str x t h => cases hv; exact IsiPair.str_bool (k _)
  | tup ht _ _ => cases hv; obtain ⟨n, e⟩ := ht; exact IsiPair.tuple_bool e rfl (k _)
  | lst hl _ _ _ => cases hv; obtain ⟨n, e⟩ := hl; exact IsiPair.list_bool e rfl (k _)
  | _ => cases hv
theorem op_isa_str {v : V} {cv : Value} {t : Bool} (hv : vIsa .isStr v = some t) (r : VR B σ φ s.heap v cv) (k : ∀ tk, Q (.bool t) { s with toks := tk }) : wpAny (model prog w) A (call (.builtin "isinstance") [cv, .type "str"]) Q E s := by
  cases r with
  | none => cases hv; exact IsiPair.NoneType_str (k _)
  | bool b => cases hv; exact IsiPair.bool_str (k _)
  | int i t => cases hv; exact IsiPair.int_str (k _)
  | str x t h => cases hv; exact IsiPair.str_str (k _)
  | tup ht _ _ => cases hv; obtain ⟨n, e⟩ := ht; exact IsiPair.tuple_str e rfl (k _)
  | lst hl _ _ _ => cases hv; obtain ⟨n, e⟩ := hl; exact IsiPair.list_str e rfl (k _)
  | _ => cases hv
theorem op_isa_tuple {v : V} {cv : Value} {t : Bool} (hv : vIsa .isTup v = some t) (r : VR B σ φ s.heap v cv) (k : ∀ tk, Q (.bool t) { s with toks := tk }) : wpAny (model prog w) A (call (.builtin "isinstance") [cv, .type "tuple"]) Q E s := by
  cases r with
  | none => cases hv; exact IsiPair.NoneType_tuple (k _)
  | bool b => cases hv; exact IsiPair.bool_tuple (k _)
  | int i t => cases hv; exact IsiPair.int_tuple (k _)
  | str x t h => cases hv; exact IsiPair.str_tuple (k _)
  | tup ht _ _ => cases hv; obtain ⟨n, e⟩ := ht; exact IsiPair.tuple_tuple e rfl (k _)
  | lst hl _ _ _ => cases hv; obtain ⟨n, e⟩ := hl; exact IsiPair.list_tuple e rfl (k _)
  | _ => cases hv
theorem op_isa_list {v : V} {cv : Value} {t : Bool} (hv : vIsa .isLst v = some t) (r : VR B σ φ s.heap v cv) (k : ∀ tk, Q (.bool t) { s with toks := tk }) : wpAny (model prog w) A (call (.builtin "isinstance") [cv, .type "list"]) Q E s := by
  cases r with
  | none => cases hv; exact IsiPair.NoneType_list (k _)
  | bool b => cases hv; exact IsiPair.bool_list (k _)
  | int i t => cases hv; exact IsiPair.int_list (k _)
  | str x t h => cases hv; exact IsiPair.str_list (k _)
  | tup ht _ _ => cases hv; obtain ⟨n, e⟩ := ht; exact IsiPair.tuple_list e rfl (k _)
  | lst hl _ _ _ => cases hv; obtain ⟨n, e⟩ := hl; exact IsiPair.list_list e rfl (k _)
  | _ => cases hv
theorem op_isa {b : Bi} {v : V} {cv : Value} {t : Bool} (hv : vIsa b v = some t) (hb : ∀ c, b ≠ .isExc c) (r : VR B σ φ s.heap v cv)
    (hq : Grow B σ φ s (.bool t) Q) : wpAny (model prog w) A (call (.builtin "isinstance") [cv, .type (isaT b)]) Q E s := by
  have k : ∀ tk, Q (.bool t) { s with toks := tk } := fun tk => hq _ _ tk (fun _ _ e => e) (.bool _)
  cases b with
  | isBool => exact op_isa_bool hv r k
  | isInt => cases hv
  | isStr => exact op_isa_str hv r k
  | isTup => exact op_isa_tuple hv r k
  | isLst => exact op_isa_list hv r k
  | isExc c => exact (hb c rfl).elim
  | _ => cases hv

theorem op_isaLst {i : Nat} {xs : List V} {cv : Value} (hi : σ[i]? = some (.lst xs)) (R : SR B σ φ s.heap) (r : VR B σ φ s.heap (.ref i) cv)
    (hq : Grow B σ φ s (.bool true) Q) : wpAny (model prog w) A (call (.builtin "isinstance") [cv, .type "list"]) Q E s := by
  cases r with
  | ref ha =>
    obtain ⟨a', vs, e1, ⟨n, e2⟩, _⟩ := R.lst i xs hi
    rw [ha] at e1; cases e1
    exact IsiPair.list_list e2 rfl (hq _ _ _ (fun _ _ e => e) (.bool _))
end

end Mine
namespace Mine
open PySem PyProof.Rows PySem.Calls

section
variable {prog : Program} {w : World} {A : Around} {E : Value → Shared → Prop} {s : Shared} {B : Bs} {σ : Sg} {φ : List Addr} {Q : Value → Shared → Prop} {h : Heap}

theorem nIdx_seq {i : Int} {n k : Nat} (e : nIdx i n = some k) : seqIndex? i n = some k ∧ k < n ∧ ((0 ≤ i ∧ k = i.toNat) ∨ (i < 0 ∧ -(n : Int) ≤ i ∧ k = (i + (n : Int)).toNat)) := by
  unfold nIdx at e
  unfold seqIndex?
  split at e
  · split at e
    · cases e
      refine ⟨?_, by omega, .inl ⟨by omega, rfl⟩⟩
      simp only [show ¬ i < 0 by omega, if_false]
      rw [if_pos (by simp; omega)]
    · cases e
  · split at e
    · cases e
      refine ⟨?_, by omega, .inr ⟨by omega, by omega, rfl⟩⟩
      simp only [show i < 0 by omega, if_true]
      rw [if_pos (by simp; omega)]
    · cases e

theorem op_item {v : V} {cv : Value} {i : Int} {t : Tok} {x : V} (hv : vIdx σ v (.int i) = some x) (R : SR B σ φ s.heap) (r : VR B σ φ s.heap v cv)
    (hq : Grow B σ φ s x Q) : (∃ T id, s.TypeIs cv T ∧ typeLookup (.type T) "__getitem__" = pure (some (.builtin id))) ∧ wpAny (model prog w) A (getItem cv (.int i t)) Q E s := by
  have same : ∀ b o, s.heap.get? b = some o → s.heap.get? b = some o := fun _ _ e => e
  unfold vIdx at hv
  dsimp only at hv
  split at hv
  case isFalse => cases hv
  rename_i hs
  have hsm := small_lo hs
  rw [Option.bind_eq_some_iff] at hv
  obtain ⟨xs, hx, hv⟩ := hv
  rw [Option.bind_eq_some_iff] at hv
  obtain ⟨k, hk, hv⟩ := hv
  obtain ⟨h1, h2, h3⟩ := nIdx_seq hk
  have lst : ∀ (a : Addr) (vs : List Value), s.heap.PlainList a vs.toArray → VRs B σ φ s.heap xs vs →
      (∃ T id, s.TypeIs (.ref a) T ∧ typeLookup (.type T) "__getitem__" = pure (some (.builtin id))) ∧ wpAny (model prog w) A (getItem (.ref a) (.int i t)) Q E s := by
    intro a vs hl rs
    obtain ⟨u, e1, e2⟩ := rs.get hv
    have e := rs.length
    refine ⟨⟨_, _, hl.isList.typeIs, slot_list_getitem.lookup⟩, ?_⟩
    rcases h3 with ⟨h4, h5⟩ | ⟨h4, h5, h6⟩
    · exact wpAny_getItem_list hl.isList h4 (by omega) (by rw [← h5]; simpa using e1) (hq _ _ _ same e2)
    · exact wpAny_getItem_list_neg hl.isList h4 (by rw [List.size_toArray, e]; exact h5) (by omega) (by rw [List.size_toArray, e, ← h6]; simpa using e1) (hq _ _ _ same e2)
  cases r with
  | tup ht rs hn =>
    cases hx
    obtain ⟨u, e1, e2⟩ := rs.get hv
    have e := rs.length
    obtain ⟨n, ho⟩ := id ht
    refine ⟨⟨"tuple", _, ⟨_, ho, rfl⟩, PySem.F.slot_tuple_getitem.lookup⟩, ?_⟩
    exact PyProof.Rows.getItem_tuple ht.isTup (by omega) (by omega) (by rw [List.size_toArray, e]; exact h1) (by simpa using e1) (hq _ _ _ same e2)
  | str x' t' hs' =>
    cases hx
    simp only [List.length_map] at h1 h2
    rw [List.getElem?_map, Option.map_eq_some_iff] at hv
    obtain ⟨c, e1, rfl⟩ := hv
    refine ⟨⟨"str", _, typeIs_str s _ t', PySem.F.slot_str_getitem.lookup⟩, ?_⟩
    refine PyProof.Rows.getItem_str (c := c) (by rw [Bool.or_eq_false_iff]; exact ⟨decide_eq_false (by omega), decide_eq_false (by omega)⟩) ?_ (hq _ _ _ same (.str [c] _ (by unfold roomy; simp)))
    have e : (⟨x'.toArray⟩ : Str).length = x'.length := by simp [Str.length]
    rw [e, h1]
    simpa using e1
  | lst hl nl rs hn => cases hx; exact lst _ _ hl rs
  | ref hi =>
    obtain ⟨a', vs, e0, e2, e3, _⟩ := getL_VR (v := .ref _) R (by unfold getSeq at hx; exact hx) (.ref hi)
    cases e0
    exact lst _ _ e2 e3
  | none => cases hx
  | bool b => cases hx
  | int i t => cases hx
  | exc a b c d => cases hx

/-! cuts -/
theorem pick_from {α : Type} (xs : List α) : ∀ (m a : Nat), a + m ≤ xs.length → (List.range' a m).filterMap (xs[·]?) = (xs.drop a).take m
  | 0, _, _ => by simp
  | m + 1, a, hb => by
    have h1 : a < xs.length := by omega
    rw [List.range'_succ, List.filterMap_cons, List.getElem?_eq_getElem h1, pick_from xs m (a + 1) (by omega), List.drop_eq_getElem_cons h1, List.take_succ_cons]
theorem pick_range {α : Type} (xs : List α) (a b : Nat) (hb : b ≤ xs.length) : ((List.range (b - a)).map (a + ·)).filterMap (xs[·]?) = (xs.take b).drop a := by
  rw [← List.range'_eq_map_range]
  by_cases hab : a ≤ b
  · rw [pick_from xs (b - a) a (by omega), List.drop_take]
  · rw [show b - a = 0 by omega]
    rw [List.drop_eq_nil_of_le (by rw [List.length_take]; omega)]; rfl

theorem bounds_cut (lo hi : Option Int) (n : Nat) : sliceBounds lo hi none n = ((loOf lo n : Int), (hiOf hi n : Int), 1) := by
  unfold sliceBounds
  simp only [Option.getD_none, show (1 : Int) > 0 by decide, if_true]
  refine Prod.ext ?_ (Prod.ext ?_ rfl)
  · cases lo with
    | none => rfl
    | some i => dsimp only [loOf, hiOf]; unfold clamp; split <;> omega
  · cases hi with
    | none => rfl
    | some i => dsimp only [loOf, hiOf]; unfold clamp; split <;> omega

theorem clamp_le (i : Int) (n : Nat) : clamp i n ≤ n := by unfold clamp; split <;> omega
theorem hiOf_le (hi : Option Int) (n : Nat) : hiOf hi n ≤ n := by
  cases hi with
  | none => exact Nat.le_refl _
  | some i => exact clamp_le i _

theorem cut_eq {α : Type} (xs : List α) (lo hi : Option Int) :
    (sliceRange (sliceBounds lo hi none xs.length).1 (sliceBounds lo hi none xs.length).2.1 (sliceBounds lo hi none xs.length).2.2).filterMap (xs[·]?) = cut xs lo hi := by
  rw [bounds_cut]
  dsimp only
  rw [sliceRange_one, pick_range]
  · rfl
  · exact hiOf_le hi _

theorem pick_cut (vs : List Value) (lo hi : Option Int) : slicePick vs.toArray lo hi none = (cut vs lo hi).toArray := by
  unfold slicePick
  rw [← cut_eq vs lo hi]
  simp

theorem strIdx_cut (lo hi : Option Int) (n : Nat) : Builtin.Str.strSliceIndices lo hi 1 n = sliceRange (sliceBounds lo hi none n).1 (sliceBounds lo hi none n).2.1 (sliceBounds lo hi none n).2.2 := by
  unfold Builtin.Str.strSliceIndices sliceBounds
  rfl

theorem cut_length {α : Type} (xs : List α) (lo hi : Option Int) : (cut xs lo hi).length ≤ xs.length := by
  unfold cut
  simp only [List.length_drop, List.length_take]
  omega

theorem VRs.cut {xs : List V} {vs : List Value} (r : VRs B σ φ h xs vs) (lo hi : Option Int) : VRs B σ φ h (Mine.cut xs lo hi) (Mine.cut vs lo hi) := by
  unfold Mine.cut
  simp only [r.length]
  exact (r.take _).drop _

theorem str_cut (x : List Nat) (lo hi : Option Int) : (⟨((Builtin.Str.strSliceIndices lo hi 1 (⟨x.toArray⟩ : Str).length).filterMap ((⟨x.toArray⟩ : Str).cps[·]?)).toArray⟩ : Str) = ⟨(cut x lo hi).toArray⟩ := by
  have e : (⟨x.toArray⟩ : Str).length = x.length := by simp [Str.length]
  rw [e, strIdx_cut, ← cut_eq x lo hi]
  simp

theorem cut_whole {α : Type} (x : List α) (lo hi : Option Int) (h : (sliceRange (sliceBounds lo hi none x.length).1 (sliceBounds lo hi none x.length).2.1 (sliceBounds lo hi none x.length).2.2).length = x.length) : cut x lo hi = x := by
  rw [bounds_cut] at h
  dsimp only at h
  rw [sliceRange_one] at h
  simp only [List.length_map, List.length_range] at h
  unfold cut
  have h1 := hiOf_le hi x.length
  by_cases hx : x = []
  · subst hx; simp
  · have : 0 < x.length := List.length_pos_iff.mpr hx
    rw [show loOf lo x.length = 0 by omega, show hiOf hi x.length = x.length by omega]; simp

/-- a cut, once its slice object stands -/
theorem op_cut {v : V} {cv : Value} {x : V} {lo hi : Option Int} {sl : Addr} {vl vu : Value} (hv : vCut σ v lo hi = some x) (R : SR B σ φ s.heap) (r : VR B σ φ s.heap v cv)
    (hs : s.heap.IsSliceOf sl vl vu .none) (pl : IsPart vl lo) (pu : IsPart vu hi)
    (hq : Grow B σ φ s x Q) : (∃ T id, s.TypeIs cv T ∧ typeLookup (.type T) "__getitem__" = pure (some (.builtin id))) ∧ wpAny (model prog w) A (getItem cv (.ref sl)) Q E s := by
  have same : ∀ b o, s.heap.get? b = some o → s.heap.get? b = some o := fun _ _ e => e
  unfold vCut at hv
  split at hv
  case isFalse => cases hv
  split at hv
  · cases hv
    rename_i x0 
    cases r with
    | str _ t hs' =>
      refine ⟨⟨"str", _, typeIs_str s _ t, PySem.F.slot_str_getitem.lookup⟩, ?_⟩
      obtain ⟨o, ho, hc, hd⟩ := hs
      have key : ∀ (l u : Option (Int × Tok)), partValue l = vl → partValue u = vu → l.map (·.1) = lo → u.map (·.1) = hi → wpAny (model prog w) A (getItem (.str ⟨x0.toArray⟩ t) (.ref sl)) Q E s := by
        intro l u e1 e2 e3 e4
        refine wpAny_getItem_str_slice (l := l) (u := u) (st := none) ⟨o, ho, hc, by rw [hd, e1, e2]; rfl⟩ rfl ?_
        unfold sliceMade slicePicked
        rw [e3, e4]
        dsimp only [Option.map_none, Option.getD_none]
        split
        · rename_i hw
          simp only [Bool.and_eq_true, beq_iff_eq] at hw
          have hw := hw.2
          rw [strIdx_cut] at hw
          have e : (⟨x0.toArray⟩ : Str).length = x0.length := by simp [Str.length]
          rw [e] at hw
          rw [cut_whole x0 lo hi hw] at hq
          exact hq _ _ _ same (.str _ _ hs')
        · rw [str_cut]
          have hle : (cut x0 lo hi).length ≤ roomy := Nat.le_trans (cut_length _ _ _) hs'
          exact ⟨by rw [← roomy_eq]; simpa [Str.length] using hle, hq _ _ _ same (.str _ _ hle)⟩
      cases pl with
      | none => cases pu with
        | none => exact key none none rfl rfl rfl rfl
        | int i t' => exact key none (some (i, t')) rfl rfl rfl rfl
      | int i t' => cases pu with
        | none => exact key (some (i, t')) none rfl rfl rfl rfl
        | int j t'' => exact key (some (i, t')) (some (j, t'')) rfl rfl rfl rfl
  · split at hv
    · rename_i xs hc
      cases hv
      simp only [Bool.and_eq_true] at hc
      cases r with
      | tup ht rs hn =>
        rename_i a vs
        obtain ⟨n, ho⟩ := id ht
        refine ⟨⟨"tuple", _, ⟨_, ho, rfl⟩, PySem.F.slot_tuple_getitem.lookup⟩, ?_⟩
        have e := rs.length
        cases lo with
        | none => simp at hc
        | some i =>
          cases hi with
          | some j => simp at hc
          | none =>
            simp only [Option.isNone_none, decide_eq_true_eq, Option.getD_some] at hc
            have hc := hc.2
            cases pl with
            | int _ t' =>
            cases pu with
            | none =>
            have ei : i = ((i.toNat : Nat) : Int) := by omega
            rw [ei] at hs
            refine getItem_tuple_from ht.isTup hs (by omega) (by rw [List.size_toArray, e]; omega) ?_ (by rw [List.size_toArray, e, ← roomy_eq]; exact hn)
            have ec : cut xs (some i) none = xs.drop i.toNat := by
              unfold cut loOf hiOf clamp
              dsimp only
              rw [if_neg (by omega), List.take_length, Nat.min_eq_left (by omega)]
            rw [ec] at hq
            refine hq _ _ _ (push_keeps _ _) (VR.newTup R (rs.drop _) (by rw [List.length_drop]; omega) 0)
    · cases hv
  · rw [Option.map_eq_some_iff] at hv
    obtain ⟨xs, hx, rfl⟩ := hv
    obtain ⟨a, vs, rfl, hl, rs, hn⟩ := getL_VR R hx r
    refine ⟨⟨_, _, hl.isList.typeIs, slot_list_getitem.lookup⟩, ?_⟩
    refine wpAny_getItem_list_slice hl.isList hs pl pu .none (by simp) ?_ (by rw [List.size_toArray, rs.length, ← roomy_eq]; exact hn)
    rw [pick_cut]
    exact hq _ _ _ (push_keeps _ _) (VR.newLst R (rs.cut lo hi) (Nat.le_trans (cut_length _ _ _) hn) 0)
end

end Mine

namespace Mine
open PySem PyProof.Rows PySem.Calls

section
variable {prog : Program} {w : World} {A : Around} {E : Value → Shared → Prop} {s : Shared} {B : Bs} {σ : Sg} {φ : List Addr} {Q : Value → Shared → Prop} {h : Heap}

theorem strs_VR : ∀ {xs : List V} {l : List (List Nat)} {vs : List Value}, strsV xs = some l → VRs B σ φ h xs vs → ∃ ts : List (Str × Tok), strValues ts = vs ∧ ts.map (·.1) = l.map (fun x => ⟨x.toArray⟩)
  | [], _, _, e, r => by cases e; cases r; exact ⟨[], rfl, rfl⟩
  | .str x :: r, l, _, e, rs => by
    rw [strsV, Option.map_eq_some_iff] at e
    obtain ⟨l', e1, rfl⟩ := e
    cases rs with
    | cons a rs =>
      obtain ⟨ts, h1, h2⟩ := strs_VR e1 rs
      cases a with
      | str _ t hs => exact ⟨(⟨x.toArray⟩, t) :: ts, by rw [← h1]; rfl, by rw [List.map_cons, h2]; rfl⟩
  | .undef :: _, _, _, e, _ | .none :: _, _, _, e, _ | .bool _ :: _, _, _, e, _ | .int _ :: _, _, _, e, _ | .tup _ :: _, _, _, e, _ | .lst _ :: _, _, _, e, _ | .ref _ :: _, _, _, e, _ | .exc _ :: _, _, _, e, _ => by cases e

theorem str_append (a b : List Nat) : (⟨a.toArray⟩ : Str) ++ (⟨b.toArray⟩ : Str) = ⟨(a ++ b).toArray⟩ := by
  show Str.append _ _ = _
  unfold Str.append
  simp

theorem strJoin (sep : List Nat) : ∀ l : List (List Nat), Str.join ⟨sep.toArray⟩ (l.map fun x => (⟨x.toArray⟩ : Str)) = ⟨(joinS sep l).toArray⟩
  | [] => rfl
  | [x] => rfl
  | x :: y :: r => by
    have ih := strJoin sep (y :: r)
    rw [List.map_cons] at ih
    rw [List.map_cons, List.map_cons, Str.join, ih, str_append, str_append]
    · rfl
    · intro e; cases e
theorem txtJoin (sep : List Nat) (l : List (List Nat)) : Txt.join ⟨sep.toArray⟩ (l.map fun x => (⟨x.toArray⟩ : Str)) = ⟨(joinS sep l).toArray⟩ := by
  rw [← strJoin]
  cases l with
  | nil => rfl
  | cons x r => rw [List.map_cons]; exact StrLaws.glued_cons _ _ _

theorem joinLen (sep : List Nat) : ∀ l : List (List Nat), (joinS sep l).length ≤ (l.map fun x => x.length + sep.length).sum
  | [] => by simp [joinS]
  | [x] => by simp [joinS]
  | x :: y :: r => by
    have := joinLen sep (y :: r)
    rw [joinS]
    · simp only [List.length_append, List.map_cons, List.sum_cons] at this ⊢
      omega
    · intro e; cases e

theorem op_join {sp l : V} {cs cl : Value} {v : V} (hv : vJoin σ sp l = some v) (R : SR B σ φ s.heap) (rs : VR B σ φ s.heap sp cs) (rl : VR B σ φ s.heap l cl)
    (hq : Grow B σ φ s v Q) : ∃ x t, cs = .str x t ∧ wpAny (model prog w) A (call (.builtin "str.join") [cs, cl]) Q E s := by
  unfold vJoin at hv
  split at hv
  · rename_i sep
    cases rs with
    | str _ t hs =>
    refine ⟨_, _, rfl, ?_⟩
    rw [Option.bind_eq_some_iff] at hv
    obtain ⟨ts, hts, hv⟩ := hv
    rw [Option.bind_eq_some_iff] at hts
    obtain ⟨xs, hx, hts⟩ := hts
    split at hv
    · rename_i hsz
      cases hv
      obtain ⟨a, vs, rfl, hl, rvs, hn⟩ := getL_VR R hx rl
      obtain ⟨l', h1, h2⟩ := strs_VR hts rvs
      refine SC.join (l := l') (texts := ts.map fun x => ⟨x.toArray⟩) (by rw [h1]; exact hl.isList) h2 ?_ fun t' k => ?_
      · unfold JoinOk
        rw [Bool.not_eq_true']
        have e : ((ts.map fun x => (⟨x.toArray⟩ : Str)).toArray.foldl (fun a b => a + b.length + (⟨sep.toArray⟩ : Str).length) 0) = (ts.map fun x => x.length + sep.length).sum := by
          rw [List.foldl_toArray]
          have gen : ∀ (l : List (List Nat)) (acc : Nat), (l.map fun x => (⟨x.toArray⟩ : Str)).foldl (fun a b => a + b.length + (⟨sep.toArray⟩ : Str).length) acc = acc + (l.map fun x => x.length + sep.length).sum := by
            intro l
            induction l with
            | nil => intro acc; simp
            | cons x r ih => intro acc; rw [List.map_cons, List.foldl_cons, ih, List.map_cons, List.sum_cons]; simp [Str.length]; omega
          rw [gen]; simp
        exact decide_eq_false (by rw [e]; show ¬ _ > sizeLine; rw [← roomy_eq]; exact Nat.not_lt.mpr hsz)
      · rw [txtJoin]
        exact hq _ _ _ (fun _ _ e => e) (.str _ _ (Nat.le_trans (joinLen _ _) hsz))
    · cases hv
  · cases hv
end

end Mine

namespace Mine
open PySem PyProof.Rows PySem.Calls

section
variable {prog : Program} {w : World} {A : Around} {E : Value → Shared → Prop} {s : Shared} {B : Bs} {σ : Sg} {φ : List Addr} {Q : Value → Shared → Prop} {h : Heap}

theorem valueAt_isSome (kvs : List (Int × Value)) (k : Int) : (valueAt kvs k).isSome = decide (k ∈ kvs.map (·.1)) := by
  unfold valueAt
  rw [Option.isSome_map, Bool.eq_iff_iff]
  simp [List.find?_isSome]
theorem atKey_isSome (kvs : List (List Int × Addr × Value)) (k : List Int) : (atKey kvs k).isSome = decide (k ∈ kvs.map (·.1)) := by
  unfold atKey
  rw [Option.isSome_map, Bool.eq_iff_iff]
  simp [List.find?_isSome]

theorem intKey (k : Int) (t : Tok) : (intKind prog w).is k (.int k t) = true := by simp [intKind, Value.isInt]

theorem ints_items : ∀ {xs : List V} {l : List Int} {vs : List Value}, intsV xs = some l → VRs B σ φ h xs vs → PySem.ItemsAre (intKind prog w) l vs
  | [], _, _, e, r => by cases e; cases r; exact .nil
  | .int i :: r, l, _, e, rs => by
    rw [intsV, Option.map_eq_some_iff] at e
    obtain ⟨l', e1, rfl⟩ := e
    cases rs with
    | cons a rs =>
      cases a with
      | int _ t => exact .cons (intKey i t) (ints_items e1 rs)
  | .undef :: _, _, _, e, _ | .none :: _, _, _, e, _ | .bool _ :: _, _, _, e, _ | .str _ :: _, _, _, e, _ | .tup _ :: _, _, _, e, _ | .lst _ :: _, _, _, e, _ | .ref _ :: _, _, _, e, _ | .exc _ :: _, _, _, e, _ => by cases e

theorem tupKey {a : Addr} {vs : List Value} {xs : List V} {l : List Int} (ht : PTup h a vs.toArray) (rs : VRs B σ φ h xs vs) (hl : intsV xs = some l) : (tupleKind (intKind prog w)).is h l a := by
  obtain ⟨n, e⟩ := ht
  exact ⟨_, _, n, e, rfl, rfl, by simpa using ints_items hl rs⟩

theorem op_in_dictI {i : Nat} {ks : List Int} {k : Int} {t : Tok} {cd : Value} (hi : σ[i]? = some (.dictI ks)) (hB : prog = B.prog ∧ w = B.w) (R : SR B σ φ s.heap) (r : VR B σ φ s.heap (.ref i) cd) :
    ((∀ tk, Q (.bool (decide (k ∈ ks))) { s with toks := tk }) → wpAny (model prog w) A (compareOp .In (.int k t) cd) Q E s) ∧
    ((∀ tk, Q (.bool (!decide (k ∈ ks))) { s with toks := tk }) → wpAny (model prog w) A (compareOp .NotIn (.int k t) cd) Q E s) := by
  obtain ⟨rfl, rfl⟩ := hB
  cases r with
  | ref ha =>
    obtain ⟨a', e1, ⟨kvs, D, ek⟩, hr⟩ := R.dictI i ks hi
    rw [ha] at e1; cases e1
    have hs := R.sys _ (List.mem_of_getElem? ha)
    exact ⟨fun hq => wpAny_in_of (intKey k t) hs D.mapOf (by rw [valueAt_isSome, ek]; exact hq _),
      fun hq => wpAny_notIn_of (intKey k t) hs D.mapOf (by rw [valueAt_isSome, ek]; exact hq _)⟩

theorem op_in_dictP {i : Nat} {ks : List (List Int)} {xs : List V} {l : List Int} {cd ck : Value} (hi : σ[i]? = some (.dictP ks)) (hl : intsV xs = some l) (hB : prog = B.prog ∧ w = B.w) (R : SR B σ φ s.heap)
    (rk : VR B σ φ s.heap (.tup xs) ck) (r : VR B σ φ s.heap (.ref i) cd) (hu : A.units + 64 < cLine) :
    ((∀ tk, Q (.bool (decide (l ∈ ks))) { s with toks := tk }) → wpAny (model prog w) A (compareOp .In ck cd) Q E s) ∧
    ((∀ tk, Q (.bool (!decide (l ∈ ks))) { s with toks := tk }) → wpAny (model prog w) A (compareOp .NotIn ck cd) Q E s) := by
  obtain ⟨rfl, rfl⟩ := hB
  cases r with
  | ref ha =>
    cases rk with
    | tup ht rs hn =>
    obtain ⟨a', e1, ⟨kvs, D, ek⟩, hr⟩ := R.dictP i ks hi
    rw [ha] at e1; cases e1
    have hs := R.sys _ (List.mem_of_getElem? ha)
    have hroom : (tupleKind (intKind B.prog B.w)).room A.in1 := tupleKind_room_in1 (by omega)
    exact ⟨fun hq => wpAny_in_heap hroom (tupKey ht rs hl) hs D (by rw [atKey_isSome, ek]; exact hq _),
      fun hq => wpAny_notIn_heap hroom (tupKey ht rs hl) hs D (by rw [atKey_isSome, ek]; exact hq _)⟩

theorem op_inG {a b : V} {ca cb : Value} {ys : List V} {u : Bool} (hv : inG a ys = some u) (hc : b = .lst ys ∨ b = .tup ys ∨ ∃ i, b = .ref i ∧ σ[i]? = some (.lst ys)) (R : SR B σ φ s.heap) (ra : VR B σ φ s.heap a ca) (rb : VR B σ φ s.heap b cb) (hu : A.units + 64 < cLine) :
    ((∀ tk, Q (.bool u) { s with toks := tk }) → wpAny (model prog w) A (compareOp .In ca cb) Q E s) ∧ ((∀ tk, Q (.bool (!u)) { s with toks := tk }) → wpAny (model prog w) A (compareOp .NotIn ca cb) Q E s) := by
  cases hv
theorem op_inSeq {a b : V} {ca cb : Value} {ys : List V} {u : Bool} (hv : inSeq a ys = some u) (hc : b = .lst ys ∨ b = .tup ys ∨ ∃ i, b = .ref i ∧ σ[i]? = some (.lst ys)) (R : SR B σ φ s.heap) (ra : VR B σ φ s.heap a ca) (rb : VR B σ φ s.heap b cb) (hu : A.units + 64 < cLine) :
    ((∀ tk, Q (.bool u) { s with toks := tk }) → wpAny (model prog w) A (compareOp .In ca cb) Q E s) ∧ ((∀ tk, Q (.bool (!u)) { s with toks := tk }) → wpAny (model prog w) A (compareOp .NotIn ca cb) Q E s) := by
  cases a with
  | str z =>
    replace hv : (match strsV ys with | some l => inStrs z l | none => inG (.str z) ys) = some u := hv
    cases hl : strsV ys with
    | none => rw [hl] at hv; exact op_inG hv hc R ra rb hu
    | some l =>
      rw [hl] at hv
      obtain ⟨hp, rfl⟩ := of_if (show (if strFine z && l.all strFine then some (l.any fun y => y == z) else none) = some u from hv)
      rw [Bool.and_eq_true] at hp
      have := op_in_strs (prog := prog) (w := w) (E := E) (Q := Q) hc hl hp.1 hp.2 rfl R ra rb hu
      exact ⟨fun hq => this.1 (hq s.toks), fun hq => this.2 (hq s.toks)⟩
  | _ => exact op_inG (show inG _ ys = some u from hv) hc R ra rb hu
theorem op_in {a b : V} {ca cb : Value} {u : Bool} (hv : vIn σ a b = some u) (hB : prog = B.prog ∧ w = B.w) (R : SR B σ φ s.heap) (ra : VR B σ φ s.heap a ca) (rb : VR B σ φ s.heap b cb) (hu : A.units + 64 < cLine) :
    ((∀ tk, Q (.bool u) { s with toks := tk }) → wpAny (model prog w) A (compareOp .In ca cb) Q E s) ∧ ((∀ tk, Q (.bool (!u)) { s with toks := tk }) → wpAny (model prog w) A (compareOp .NotIn ca cb) Q E s) := by
  cases b with
  | str x =>
    replace hv : inStr a x = some u := hv
    cases a with
    | str z =>
      match z, hv with
      | [c], hv =>
        cases hv
        cases ra; cases rb
        have e : ∀ x : List Nat, Txt.contains ⟨x.toArray⟩ ⟨[c].toArray⟩ = x.contains c := fun x => by
          show (!(Builtin.Str.occurrences ⟨x.toArray⟩ ⟨#[c]⟩ 0 (⟨x.toArray⟩ : Str).length 1).isEmpty) = _
          rw [StrLaws.found_one]
          simp
        exact ⟨fun hq => SB.contains (by rw [e]; exact hq s.toks), fun hq => SB.notContains (by rw [e]; exact hq s.toks)⟩
    | _ => cases hv
  | ref i =>
    replace hv : inCell a σ[i]? = some u := hv
    cases hi : σ[i]? with
    | none => rw [hi] at hv; cases hv
    | some c =>
      rw [hi] at hv
      cases c with
      | lst xs => exact op_inSeq hv (.inr (.inr ⟨_, rfl, hi⟩)) R ra rb hu
      | dictI ks => cases a with
        | int k => cases hv; cases ra; exact op_in_dictI hi hB R rb
        | _ => cases hv
      | dictP ks => cases a with
        | tup xs =>
          obtain ⟨l, hl, rfl⟩ := Option.map_eq_some_iff.mp hv
          exact op_in_dictP hi hl hB R ra rb hu
        | _ => cases hv
      | dead => cases hv
  | lst xs => exact op_inSeq hv (.inl rfl) R ra rb hu
  | tup xs => exact op_inSeq hv (.inr (.inl rfl)) R ra rb hu
  | _ => cases hv

theorem op_cmp {op : Cop} {a b : V} {ca cb : Value} {t : Bool} (hv : vCmp σ op a b = some t) (hB : prog = B.prog ∧ w = B.w) (R : SR B σ φ s.heap) (ra : VR B σ φ s.heap a ca) (rb : VR B σ φ s.heap b cb)
    (hu : A.units + 64 < cLine) (hq : ∀ tk, Q (.bool t) { s with toks := tk }) : wpAny (model prog w) A (compareOp (cop op) ca cb) Q E s := by
  have q0 : Q (.bool t) s := hq s.toks
  cases op with
  | eq => exact op_eq hv R ra rb hu q0
  | ne =>
    obtain ⟨u, h1, rfl⟩ := Option.map_eq_some_iff.mp hv
    exact op_ne h1 R ra rb hu q0
  | isin => exact (op_in hv hB R ra rb hu).1 hq
  | notin => cases hv
  | is => cases hv
  | isnot => cases hv
  | lt => obtain ⟨i, j, rfl, rfl, hv⟩ := ii_some hv; cases hv; cases ra; cases rb; exact P.lt_int q0
  | le => cases hv
  | gt => obtain ⟨i, j, rfl, rfl, hv⟩ := ii_some hv; cases hv; cases ra; cases rb; exact P.gt_int q0
  | ge => cases hv
/-! what turns a live list -/
theorem plain_upd {a : Addr} {items : Array Value} (hl : h.PlainList a items) (f : Array Value → Array Value) :
    (h.update a (Obj.mapSeq f)).PlainList a (f items) ∧ ∀ b o, b ≠ a → h.get? b = some o → (h.update a (Obj.mapSeq f)).get? b = some o := by
  obtain ⟨n, ho⟩ := hl
  refine ⟨⟨_, (Heap.get?_update_self _ ho rfl).trans rfl⟩, fun b o hb e => ?_⟩
  rw [Heap.get?_update_other _ _ (Ne.symm hb)]; exact e

theorem upd_list {i : Nat} {xs ys : List V} {a : Addr} {vs ws : List Value} (f : Array Value → Array Value) (R : SR B σ φ h) (hi : σ[i]? = some (.lst xs)) (ha : φ[i]? = some a) (hl : h.PlainList a vs.toArray)
    (e : f vs.toArray = ws.toArray) (r : VRs B σ φ h ys ws) (hx : ys.length ≤ roomy) :
    SR B (σ.set i (.lst ys)) φ (h.update a (Obj.mapSeq f)) ∧ Stp W0 σ φ h (σ.set i (.lst ys)) φ (h.update a (Obj.mapSeq f)) := by
  obtain ⟨h1, h2⟩ := plain_upd hl f
  exact R.updL hi ha h2 (e ▸ h1) r hx

/-- what a step into a new state hands on -/
noncomputable def Post (B : Bs) (s : Shared) (σ : Sg) (φ : List Addr) (σ' : Sg) (v : V) (cv : Value) (s' : Shared) : Prop :=
  ∃ φ' h' tk, s' = { s with heap := h', toks := tk } ∧ SR B σ' φ' h' ∧ Stp W0 σ φ s.heap σ' φ' h' ∧ VR B σ' φ' h' v cv

theorem op_pop {o v : V} {co : Value} {σ' : Sg} {pos : Pos} (hv : vPop σ o = some (v, σ')) (R : SR B σ φ s.heap) (ro : VR B σ φ s.heap o co) :
    ∃ a, co = .ref a ∧ wpAny (model prog w) A (callWith pos (.builtin "list.pop") [co] [] []) (Post B s σ φ σ' v) E s := by
  unfold vPop at hv
  split at hv
  · rename_i r
    split at hv
    · rename_i xs hx
      rw [Option.map_eq_some_iff] at hv
      obtain ⟨x, hxl, hv⟩ := hv
      cases hv
      cases ro with
      | ref ha =>
      obtain ⟨a', vs, e1, ⟨n, hl⟩, rs, hn⟩ := R.lst r xs hx
      rw [ha] at e1; cases e1
      have hlen := rs.length
      rw [List.getLast?_eq_getElem?] at hxl
      obtain ⟨u, e2, e3⟩ := rs.get hxl
      refine ⟨_, rfl, P.pop_list hl (y := u) (by rw [List.size_toArray, hlen]; simpa using e2) ?_ (by rw [List.size_toArray, rs.length, ← roomy_eq]; exact hn)⟩
      have e4 : vs.toArray.eraseIdxIfInBounds (vs.toArray.size - 1) = (vs.take (vs.length - 1)).toArray := by
        rw [List.size_toArray]
        have hlt : vs.length - 1 < vs.length := by have := (List.getElem?_eq_some_iff.mp e2).1; omega
        unfold Array.eraseIdxIfInBounds
        rw [dif_pos (by simpa using hlt), List.eraseIdx_toArray]
        congr 1
        rw [← List.dropLast_eq_take]
        rw [List.eraseIdx_eq_take_drop_succ, List.drop_eq_nil_of_le (by omega), List.append_nil, List.dropLast_eq_take]
      obtain ⟨h1, h2⟩ := upd_list (fun xs => xs.eraseIdxIfInBounds (vs.toArray.size - 1)) R hx ha ⟨n, hl⟩ e4 (rs.take (vs.length - 1)) (by rw [List.length_take]; omega)
      rw [List.dropLast_eq_take]
      rw [hlen] at h1 h2
      rw [List.size_toArray, hlen] at h1 h2 ⊢
      exact ⟨φ, _, _, rfl, h1, h2, e3.mono R h2 Apart.none⟩
    · cases hv
  · cases hv

theorem op_app {o x : V} {co cx : Value} {σ' : Sg} (hv : vApp σ o x = some σ') (R : SR B σ φ s.heap) (ro : VR B σ φ s.heap o co) (rx : VR B σ φ s.heap x cx) :
    ∃ (a : Addr) (items : Array Value) (n : Nat), co = .ref a ∧ items.size ≤ sizeLine ∧ IsL s.heap a items n ∧ Post B s σ φ σ' .none .none { s with heap := s.heap.update a (Obj.mapSeq fun xs => xs.push cx) } := by
  unfold vApp at hv
  split at hv
  · rename_i r
    split at hv
    · rename_i xs hx
      split at hv
      · rename_i hsz
        cases hv
        cases ro with
        | ref ha =>
        obtain ⟨a', vs, e1, ⟨n, hl⟩, rs, hn⟩ := R.lst r xs hx
        rw [ha] at e1; cases e1
        refine ⟨_, _, n, rfl, by rw [List.size_toArray, rs.length, ← roomy_eq]; exact hn, hl, ?_⟩
        obtain ⟨h1, h2⟩ := upd_list (fun xs => xs.push cx) R hx ha ⟨n, hl⟩ (by simp) (rs.append (.cons rx .nil)) (by rw [List.length_append, List.length_singleton]; omega)
        exact ⟨φ, _, _, rfl, h1, h2, .none⟩
      · cases hv
    · cases hv
  · cases hv

theorem stored_keys (kvs : List (Int × Value)) (k : Int) (v : Value) : (stored kvs k v).map (·.1) = if k ∈ kvs.map (·.1) then kvs.map (·.1) else kvs.map (·.1) ++ [k] := by
  unfold stored
  by_cases hk : k ∈ kvs.map (·.1)
  · have : (kvs.any fun kv => decide (kv.1 = k)) = true := by
      obtain ⟨p, hp, rfl⟩ := List.mem_map.mp hk
      exact List.any_eq_true.mpr ⟨p, hp, by simp⟩
    rw [if_pos hk, if_pos this, List.map_map]
    apply List.map_congr_left
    intro p _
    simp only [Function.comp]
    split <;> rfl
  · have : (kvs.any fun kv => decide (kv.1 = k)) = false := by
      rw [List.any_eq_false]
      intro p hp hq
      exact hk (List.mem_map.mpr ⟨p, hp, by simpa using hq⟩)
    rw [if_neg hk, this]; simp
theorem storedH_keys (kvs : List (List Int × Addr × Value)) (k : List Int) (a : Addr) (v : Value) : (storedH kvs k a v).map (·.1) = if k ∈ kvs.map (·.1) then kvs.map (·.1) else kvs.map (·.1) ++ [k] := by
  unfold storedH
  by_cases hk : k ∈ kvs.map (·.1)
  · have : (atKey kvs k).isSome = true := by rw [atKey_isSome]; simpa using hk
    rw [if_pos hk, if_pos this, keys_map_putAt]
  · have : (atKey kvs k).isSome = false := by rw [atKey_isSome]; simpa using hk
    rw [if_neg hk, this]; simp

/-- o[i] = x -/
theorem op_store {o i x : V} {co ci cx : Value} {σ' : Sg} {Q : Unit → Shared → Prop} (hv : vStore σ o i x = some σ') (hB : prog = B.prog ∧ w = B.w) (R : SR B σ φ s.heap) (ro : VR B σ φ s.heap o co) (ri : VR B σ φ s.heap i ci)
    (rx : VR B σ φ s.heap x cx) (hu : A.units + 64 < cLine) (hq : ∀ h' tk, SR B σ' φ h' → Stp W0 σ φ s.heap σ' φ h' → Q () { s with heap := h', toks := tk }) :
    wpAny (model prog w) A (setItem co ci cx) Q E s := by
  unfold vStore at hv
  split at hv
  case h_2 => cases hv
  rename_i r
  cases ro with
  | ref ha =>
  split at hv
  · rename_i xs hx
    split at hv
    · rename_i k
      split at hv
      · rename_i hk
        cases hv
        obtain ⟨a', vs, e1, ⟨n, hl⟩, rs, hn⟩ := R.lst r xs hx
        rw [ha] at e1; cases e1
        have hlen := rs.length
        cases ri with
        | int _ t =>
        have hn' : (xs.length : Int) ≤ 16777216 := by unfold roomy at hn; omega
        refine W.ki_setAt hl hk.1 (by omega) (by rw [List.size_toArray, hlen]; exact hk.2) ?_
        obtain ⟨h1, h2⟩ := upd_list (fun x => x.setIfInBounds k.toNat cx) R hx ha ⟨n, hl⟩ (by simp) (rs.set rx k.toNat) (by rw [List.length_set]; exact hn)
        exact hq _ _ h1 h2
      · cases hv
    · cases hv
  · rename_i ks hx
    split at hv
    · split at hv
      · rename_i k hsz
        cases hv
        obtain ⟨rfl, rfl⟩ := hB
        obtain ⟨a', e1, ⟨kvs, D, ek⟩, hr⟩ := R.dictI r ks hx
        rw [ha] at e1; cases e1
        cases ri with
        | int _ t =>
        have el : kvs.length = ks.length := by rw [← ek, List.length_map]
        refine wpAny_setItem_pairs (intKey k t) D (fun h' D' hs => ?_) (by rw [el, ← roomy_eq]; omega)
        obtain ⟨o', es, ep, ho, _⟩ := id D'
        have ex : (stored kvs k cx).map (·.1) = if k ∈ ks then ks else ks ++ [k] := by rw [stored_keys, ek]
        refine hq _ _ (R.updAny hx (by intro x; cases x) ha (fun b o hb e => hs.extBut b o hb e) ho (fun xs e => by cases e) (fun ks' e => by cases e; exact ⟨⟨_, D', ex⟩, by split <;> first | exact hr | (rw [List.length_append, List.length_singleton]; exact hsz)⟩) (fun ks' e => by cases e)) (Stp.upd hx (by intro x; cases x) ha (fun b o hb e => hs.extBut b o hb e) ⟨_, ho⟩)
      · cases hv
    · cases hv
  · rename_i ks hx
    split at hv
    · split at hv
      · rename_i xs hsz
        rw [Option.map_eq_some_iff] at hv
        obtain ⟨k, hk, rfl⟩ := hv
        obtain ⟨rfl, rfl⟩ := hB
        obtain ⟨a', e1, ⟨kvs, D, ek⟩, hr⟩ := R.dictP r ks hx
        rw [ha] at e1; cases e1
        cases ri with
        | tup ht rs hn =>
        have el : kvs.length = ks.length := by rw [← ek, List.length_map]
        have hroom : (tupleKind (intKind B.prog B.w)).room A.in1 := tupleKind_room_in1 (by omega)
        refine wpAny_setItem_heap hroom (tupKey ht rs hk) D (fun h' D' hs => ?_) (by rw [el, ← roomy_eq]; omega)
        obtain ⟨o', es, ep, ho, _⟩ := id D'
        have ex : ∀ a, (storedH kvs k a cx).map (·.1) = if k ∈ ks then ks else ks ++ [k] := fun a => by rw [storedH_keys, ek]
        refine hq _ _ (R.updAny hx (by intro x; cases x) ha (fun b o hb e => hs.extBut b o hb e) ho (fun xs e => by cases e) (fun ks' e => by cases e) (fun ks' e => by cases e; exact ⟨⟨_, D', ex _⟩, by split <;> first | exact hr | (rw [List.length_append, List.length_singleton]; exact hsz)⟩)) (Stp.upd hx (by intro x; cases x) ha (fun b o hb e => hs.extBut b o hb e) ⟨_, ho⟩)
      · cases hv
    · cases hv
  · cases hv
end
end Mine

namespace Mine
open PySem PyProof.Rows PySem.Calls

noncomputable def Fixed (h : Heap) (b : Addr) : Prop := ∃ o, h.get? b = some o ∧ ((∃ xs n, o.data = .seq xs n) ∨ ((∃ fs, o.data = .fields fs) ∧ ∃ T, o.cls = .type T))

/-- an iterator that goes through items -/
structure Iter (B : Bs) (A : Around) (σ : Sg) (φ : List Addr) (h : Heap) (items : List V) (I : Addr) (fp wr : List Addr) (n : Nat) (P : Nat → Value → Prop) (St : Nat → Heap → Prop) : Prop where
  walks : Walks B.prog B.w A I fp wr n P St
  len : n = items.length
  st : St 0 h
  wr : ∀ b ∈ wr, b = I
  fix : ∀ i h', St i h' → ∀ b ∈ fp, Fixed h' b
  self : ∀ i h', St i h' → ∃ o, h'.get? I = some o ∧ (∃ fs, o.data = .fields fs) ∧ ∃ T, o.cls = .type T
  nl : ∀ b ∈ fp, ¬ live σ φ b
  nI : I ∉ φ
  val : ∀ i v, P i v → ∃ x, items[i]? = some x ∧ VR B σ φ h x v

noncomputable def IterAt (B : Bs) (A : Around) (h₀ : Heap) (σ : Sg) (φ : List Addr) (s : Shared) (items : List V) (it : Value) (s' : Shared) : Prop :=
  ∃ I h' tk fp wr n P St, it = .ref I ∧ s' = { s with heap := h', toks := tk } ∧ (∀ b o, s.heap.get? b = some o → h'.get? b = some o) ∧ h₀.get? I = none ∧ Iter B A σ φ h' items I fp wr n P St

/-- a value that may be iterated over, and what it yields -/
inductive ItV (B : Bs) (h₀ : Heap) (σ : Sg) (φ : List Addr) (h : Heap) : List V → Value → Prop
  | val {v : V} {cv : Value} {items : List V} : vItems .val v .none = some items → VR B σ φ h v cv → ItV B h₀ σ φ h items cv
  | rng {lo hi : Int} {r : Addr} {t u v : Tok} : small lo = true → small hi = true → IsRange h r lo hi 1 t u v → ItV B h₀ σ φ h (rangeL lo hi) (.ref r)
  | rev {xs : List V} {vs : List Value} {a I : Addr} : h.PlainList a vs.toArray → ¬ live σ φ a → VRs B σ φ h xs vs → h.IsRevIter I a ((vs.length : Int) - 1) → I ∉ φ → a ≠ I → h₀.get? I = none → ItV B h₀ σ φ h xs.reverse (.ref I)

theorem IterAt.of {B : Bs} {A : Around} {h₀ : Heap} {σ : Sg} {φ : List Addr} {s : Shared} {items : List V} {I : Addr} {h' : Heap} {tk : Nat} {fp wr : List Addr} {n : Nat} {P : Nat → Value → Prop} {St : Nat → Heap → Prop}
    (W : Walks B.prog B.w A I fp wr n P St) (hk : ∀ b o, s.heap.get? b = some o → h'.get? b = some o) (hI : h₀.get? I = none) (it : Walks B.prog B.w A I fp wr n P St → Iter B A σ φ h' items I fp wr n P St) :
    IterAt B A h₀ σ φ s items (.ref I) { s with heap := h', toks := tk } := ⟨I, h', tk, fp, wr, n, P, St, rfl, rfl, hk, hI, it W⟩

section
variable {A : Around} {E : Value → Shared → Prop} {s : Shared} {B : Bs} {σ : Sg} {φ : List Addr} {h h₀ : Heap}

theorem SR.fresh_notmem (R : SR B σ φ s.heap) : s.heap.objs.size ∉ φ := fun L => by
  obtain ⟨o, ho⟩ := R.ex _ L
  rw [get_size] at ho; cases ho
theorem SR.fresh_notlive (R : SR B σ φ s.heap) : ¬ live σ φ s.heap.objs.size := fun L => by
  obtain ⟨o, ho⟩ := R.ex _ L.mem
  rw [get_size] at ho; cases ho

theorem rangeL_get (lo hi : Int) {i : Nat} (h : i < (hi - lo).toNat) : (rangeL lo hi)[i]? = some (.int (lo + i)) := by
  unfold rangeL
  rw [List.getElem?_map, List.getElem?_range h]; rfl
theorem rangeL_length (lo hi : Int) : (rangeL lo hi).length = (hi - lo).toNat := by simp [rangeL]
theorem rangeSize_one (lo hi : Int) : Builtin.Range.rangeSize lo hi 1 = ((hi - lo).toNat : Int) := by
  unfold Builtin.Range.rangeSize
  rw [if_pos (by omega)]
  split
  · rw [Int.ediv_one]; omega
  · omega

theorem op_iter {cv : Value} {items : List V} (hv : ItV B h₀ σ φ s.heap items cv) (hh : A.handled = none) (R : SR B σ φ s.heap) (hx : ∀ b o, h₀.get? b = some o → ∃ o', s.heap.get? b = some o') :
    wpAny (model B.prog B.w) A (pyIter cv) (IterAt B A h₀ σ φ s items) E s := by
  have fresh : h₀.get? s.heap.objs.size = none := by
    cases e : h₀.get? s.heap.objs.size with
    | none => rfl
    | some o => obtain ⟨o', e'⟩ := hx _ o e; rw [get_size] at e'; cases e'
  cases hv with
  | val hv r =>
    replace hv : itemsV _ = some items := hv
    cases r with
    | tup ht rs hn =>
      rename_i a vs xs
      cases hv
      obtain ⟨n, ho⟩ := id ht
      have ha : a < s.heap.objs.size := Heap.lt_size ho
      have hT : s.heap.IsTuple a vs.toArray := ⟨_, ho, rfl, n, rfl⟩
      refine wpAny_pyIter_tuple hT ⟨_, _, _, [s.heap.objs.size, a], [s.heap.objs.size], vs.toArray.size, (fun i v => vs.toArray[i]? = some v), (fun i h => h.IsTupleIter s.heap.objs.size a i ∧ h.IsTuple a vs.toArray), rfl, rfl, push_keeps _ _, fresh, ?_⟩
      refine ⟨Walks.tuple hh _ a (Nat.ne_of_lt ha) vs.toArray, by rw [List.size_toArray, rs.length], ⟨⟨_, Heap.get?_push_size _ rfl, rfl, rfl⟩, hT.push _⟩, fun b hb => List.mem_singleton.mp hb, fun i h' st b hb => ?_, fun i h' st => ?_, fun b hb => ?_, R.fresh_notmem, fun i u hu => ?_⟩
      · obtain ⟨⟨o, h1, h2, h3⟩, ⟨o', h4, h5, n', h6⟩⟩ := st
        rcases List.mem_cons.mp hb with rfl | hb
        · exact ⟨o, h1, .inr ⟨⟨_, h3⟩, _, h2⟩⟩
        · rw [List.mem_singleton.mp hb]; exact ⟨o', h4, .inl ⟨_, _, h6⟩⟩
      · obtain ⟨⟨o, h1, h2, h3⟩, _⟩ := st
        exact ⟨o, h1, ⟨_, h3⟩, _, h2⟩
      · rcases List.mem_cons.mp hb with rfl | hb
        · exact R.fresh_notlive
        · rw [List.mem_singleton.mp hb]; exact R.notlive_tup ht
      · obtain ⟨x, e1, e2⟩ := rs.getV (k := i) (v := u) (by simpa using hu)
        exact ⟨x, e1, e2.grow R (push_keeps _ _)⟩
    | lst hl nl rs hn =>
      rename_i a vs xs
      cases hv
      obtain ⟨n, ho⟩ := id hl
      have ha : a < s.heap.objs.size := Heap.lt_size ho
      refine wpAny_pyIter_list hl.isList ⟨_, _, _, [s.heap.objs.size, a], [s.heap.objs.size], vs.toArray.size, (fun i v => vs.toArray[i]? = some v), (fun i h => h.IsListIter s.heap.objs.size a i ∧ h.IsList a vs.toArray), rfl, rfl, push_keeps _ _, fresh, ?_⟩
      refine ⟨Walks.list hh _ a (Nat.ne_of_lt ha) vs.toArray, by rw [List.size_toArray, rs.length], ⟨⟨_, Heap.get?_push_size _ rfl, rfl, rfl⟩, hl.isList.push _⟩, fun b hb => List.mem_singleton.mp hb, fun i h' st b hb => ?_, fun i h' st => ?_, fun b hb => ?_, R.fresh_notmem, fun i u hu => ?_⟩
      · obtain ⟨⟨o, h1, h2, h3⟩, ⟨o', h4, h5, n', h6⟩⟩ := st
        rcases List.mem_cons.mp hb with rfl | hb
        · exact ⟨o, h1, .inr ⟨⟨_, h3⟩, _, h2⟩⟩
        · rw [List.mem_singleton.mp hb]; exact ⟨o', h4, .inl ⟨_, _, h6⟩⟩
      · obtain ⟨⟨o, h1, h2, h3⟩, _⟩ := st
        exact ⟨o, h1, ⟨_, h3⟩, _, h2⟩
      · rcases List.mem_cons.mp hb with rfl | hb
        · exact R.fresh_notlive
        · rw [List.mem_singleton.mp hb]; exact nl.1
      · obtain ⟨x, e1, e2⟩ := rs.getV (k := i) (v := u) (by simpa using hu)
        exact ⟨x, e1, e2.grow R (push_keeps _ _)⟩
    | str x t hs =>
      cases hv
      have go : ∀ T, Walks B.prog B.w A s.heap.objs.size [s.heap.objs.size] [s.heap.objs.size] (⟨x.toArray⟩ : Str).cps.size (SignAt ⟨x.toArray⟩) (fun i h => h.IsStrIter s.heap.objs.size T ⟨x.toArray⟩ t i) →
          IterAt B A h₀ σ φ s (x.map fun c => .str [c]) (.ref s.heap.objs.size) { s with heap := s.heap.push { cls := .type T, data := .fields #[.str ⟨x.toArray⟩ t, .int 0 0] } } := by
        intro T W
        refine IterAt.of (tk := s.toks) W (push_keeps _ _) fresh fun W => ?_
        refine ⟨W, by simp, ⟨_, Heap.get?_push_size _ rfl, rfl, rfl⟩, fun b hb => List.mem_singleton.mp hb, fun i h' st b hb => ?_, fun i h' st => ?_, fun b hb => ?_, R.fresh_notmem, fun i u hu => ?_⟩
        · obtain ⟨o, h1, h2, h3⟩ := st
          rw [List.mem_singleton.mp hb]; exact ⟨o, h1, .inr ⟨⟨_, h3⟩, _, h2⟩⟩
        · obtain ⟨o, h1, h2, h3⟩ := st
          exact ⟨o, h1, ⟨_, h3⟩, _, h2⟩
        · rw [List.mem_singleton.mp hb]; exact R.fresh_notlive
        · obtain ⟨c, u', e1, rfl⟩ := hu
          exact ⟨.str [c], by rw [List.getElem?_map, show x[i]? = some c by simpa using e1]; rfl, .str [c] u' (by simp [roomy])⟩
      cases ha : (⟨x.toArray⟩ : Str).cps.all (· < 128)
      · exact wpAny_pyIter_wide ha (go _ (Walks.strWide hh _ _ t))
      · exact wpAny_pyIter_ascii ha (go _ (Walks.strAscii hh _ _ t))
    | _ => cases hv
  | rng h1 h2 hr =>
    rename_i lo hi r t u v
    have s1 := small_lo h1
    have s2 := small_lo h2
    have hsz := rangeSize_one lo hi
    have hsmall : Builtin.Range.small lo hi 1 = true := by
      unfold Builtin.Range.small
      rw [hsz]
      simp only [Builtin.Range.rangeFitsLong, Bool.and_eq_true, Bool.or_eq_true, decide_eq_true_eq, if_true, beq_iff_eq]
      simp
      omega
    refine wpAny_pyIter_range hr hsmall (IterAt.of (tk := s.toks) (Walks.range hh s.heap.objs.size lo 1 (hi - lo).toNat).bound (push_keeps _ _) fresh fun W => ?_)
    refine ⟨W, by rw [rangeL_length], ?_, fun b hb => List.mem_singleton.mp hb, fun i h' st b hb => ?_, fun i h' st => ?_, fun b hb => ?_, R.fresh_notmem, fun i u hu => ?_⟩
    · show IsRangeIter _ _ _ _ _
      rw [hsz]
      simpa using Heap.get?_push_size _ rfl
    · rw [List.mem_singleton.mp hb]; exact ⟨_, st, .inr ⟨⟨_, rfl⟩, _, rfl⟩⟩
    · exact ⟨_, st, ⟨_, rfl⟩, _, rfl⟩
    · rw [List.mem_singleton.mp hb]; exact R.fresh_notlive
    · obtain ⟨hi', t', rfl⟩ := hu
      exact ⟨.int (lo + i), rangeL_get lo hi hi', by rw [Int.mul_one]; exact .int _ _⟩
  | rev hl nl rs hr nI hne hI =>
    rename_i xs vs a I
    obtain ⟨o, ho, hc, hd⟩ := id hr
    have W := Walks.listRev (prog := B.prog) (w := B.w) hh I a hne vs.toArray
    have st0 : (0 : Nat) ≤ vs.toArray.size ∧ s.heap.IsRevIter I a ((vs.toArray.size : Int) - 1 - ((0 : Nat) : Int)) ∧ s.heap.IsList a vs.toArray := ⟨Nat.zero_le _, (by simpa using hr), hl.isList⟩
    refine W.self 0 s _ E st0 (IterAt.of (h' := s.heap) (tk := s.toks) W.bound (fun _ _ e => e) hI fun W => ?_)
    refine ⟨W, by rw [List.size_toArray, List.length_reverse, rs.length], st0, fun b hb => List.mem_singleton.mp hb, fun i h' st b hb => ?_, fun i h' st => ?_, fun b hb => ?_, nI, fun i u hu => ?_⟩
    · obtain ⟨_, ⟨o, h1, h2, h3⟩, ⟨o', h4, h5, n', h6⟩⟩ := st
      rcases List.mem_cons.mp hb with rfl | hb
      · exact ⟨o, h1, .inr ⟨⟨_, h3⟩, _, h2⟩⟩
      · rw [List.mem_singleton.mp hb]; exact ⟨o', h4, .inl ⟨_, _, h6⟩⟩
    · obtain ⟨_, ⟨o, h1, h2, h3⟩, _⟩ := st
      exact ⟨o, h1, ⟨_, h3⟩, _, h2⟩
    · rcases List.mem_cons.mp hb with rfl | hb
      · exact fun L => nI L.mem
      · rw [List.mem_singleton.mp hb]; exact nl
    · obtain ⟨hlt, hu⟩ := hu
      rw [List.size_toArray] at hlt hu
      have hu' : vs.reverse[i]? = some u := by
        rw [List.getElem?_reverse hlt]; simpa using hu
      exact rs.reverse.getV hu'
end
end Mine

namespace Mine
open PySem PyProof.Rows PySem.Calls

noncomputable def own (env : Env) (b : Addr) : Prop := b = env.locals ∨ ∃ x, (x, b) ∈ env.cells

structure FR (B : Bs) (tbl : List (Str × Nat)) (env : Env) (Γ : Fm) (σ : Sg) (φ : List Addr) (h : Heap) : Prop where
  kind : env.scope.kind = .function
  gl : env.globals = mainGlobals
  bi : env.builtins = builtinsNs
  ns : ∃ m, h.Ns env.locals m ∧ ∀ x i v, tbl.lookup x = some i → getV Γ i = some v → env.kindOf x = some .local → ∃ cv, m x = some cv ∧ VR B σ φ h v cv
  cell : ∀ x i v, tbl.lookup x = some i → getV Γ i = some v → (env.kindOf x = some .cell ∨ env.kindOf x = some .free) → ∃ c cv, env.cells.lookup x = some c ∧ h.IsCell c (some cv) ∧ VR B σ φ h v cv
  nl : ¬ live σ φ env.locals
  cells : ∀ x c, (x, c) ∈ env.cells → ∃ v, h.IsCell c v
  newL : B.hb.get? env.locals = none
  newC : ∀ x c, (x, c) ∈ env.cells → B.hb.get? c = none
  has : ∀ x, env.kindOf x = some .cell → (env.cells.lookup x).isSome = true

section
variable {B : Bs} {W : Addr → Prop} {tbl : List (Str × Nat)} {env : Env} {Γ : Fm} {σ σ₁ σ₂ : Sg} {φ φ₁ φ₂ : List Addr} {h h₁ h₂ : Heap}

theorem SR.notlive_cell (R : SR B σ φ h) {c : Addr} {v : Option Value} (hc : h.IsCell c v) : ¬ live σ φ c := fun L => by
  obtain ⟨o, ho, hd⟩ := hc
  obtain ⟨o', ho', x⟩ := R.liveObj L
  rw [ho] at ho'; cases ho'
  rcases x with ⟨_, _, _, x⟩ | ⟨_, _, _, x⟩ <;> rw [hd] at x <;> cases x

theorem FR.apart (F : FR B tbl env Γ σ φ h) : Apart B (own env) h := by
  rintro b hb o ho
  rcases hb with rfl | ⟨x, hx⟩
  · obtain ⟨m, ⟨o', es, ep, ho', hd, _⟩, _⟩ := F.ns
    rw [ho] at ho'; cases ho'
    exact .inr ⟨fun xs n e => (by rw [hd] at e; cases e), fun fs e => (by rw [hd] at e; cases e)⟩
  · obtain ⟨v, o', ho', hd⟩ := F.cells x b hx
    rw [ho] at ho'; cases ho'
    exact .inr ⟨fun xs n e => (by rw [hd] at e; cases e), fun fs e => (by rw [hd] at e; cases e)⟩

theorem FR.fresh (F : FR B tbl env Γ σ φ h) : ∀ b, own env b → B.hb.get? b = none := by
  rintro b (rfl | ⟨x, hx⟩)
  · exact F.newL
  · exact F.newC x b hx

/-- a step that leaves the frame alone -/
theorem FR.monoq (F : FR B tbl env Γ σ φ h) (R : SR B σ φ h) (S : Stq W σ φ h σ₁ φ₁ h₁) (hw : Apart B W h) (hL : ¬ W env.locals) (hC : ∀ x c, (x, c) ∈ env.cells → ¬ W c) : FR B tbl env Γ σ₁ φ₁ h₁ := by
  obtain ⟨m, hm, hv⟩ := F.ns
  obtain ⟨o, es, ep, ho, hd, hk, hf⟩ := id hm
  have cellK : ∀ x c v, (x, c) ∈ env.cells → h.IsCell c v → h₁.IsCell c v := by
    rintro x c v hx hc
    have nl := R.notlive_cell hc
    obtain ⟨o, ho, hd⟩ := hc
    exact ⟨o, S.keep c o ho nl (hC x c hx), hd⟩
  refine ⟨F.kind, F.gl, F.bi, ⟨m, ⟨o, es, ep, S.keep _ o ho F.nl hL, hd, hk, hf⟩, fun x i v e1 e2 e3 => ?_⟩, fun x i v e1 e2 e3 => ?_, fun L => ?_, fun x c hx => ?_, F.newL, F.newC, F.has⟩
  · obtain ⟨cv, e4, e5⟩ := hv x i v e1 e2 e3
    exact ⟨cv, e4, e5.monoq R S hw⟩
  · obtain ⟨c, cv, e4, e5, e6⟩ := F.cell x i v e1 e2 e3
    exact ⟨c, cv, e4, cellK x c _ (mem_of_lookup e4) e5, e6.monoq R S hw⟩
  · rcases S.live R.len L with x | x
    · exact F.nl x
    · rw [ho] at x; cases x
  · obtain ⟨v, hv⟩ := F.cells x c hx
    exact ⟨v, cellK x c v hx hv⟩
theorem FR.mono (F : FR B tbl env Γ σ φ h) (R : SR B σ φ h) (S : Stp W σ φ h σ₁ φ₁ h₁) (hw : Apart B W h) (hL : ¬ W env.locals) (hC : ∀ x c, (x, c) ∈ env.cells → ¬ W c) : FR B tbl env Γ σ₁ φ₁ h₁ := F.monoq R S.q hw hL hC
theorem FR.mono0 (F : FR B tbl env Γ σ φ h) (R : SR B σ φ h) (S : Stp W0 σ φ h σ₁ φ₁ h₁) : FR B tbl env Γ σ₁ φ₁ h₁ := F.mono R S Apart.none (fun x => x) fun _ _ _ x => x

theorem getV_set {i j : Nat} {v x : V} (e : getV (Γ.set i v) j = some x) : (i = j ∧ x = v) ∨ (i ≠ j ∧ getV Γ j = some x) := by
  unfold getV at e ⊢
  by_cases hij : i = j
  · subst hij
    left
    by_cases hl : i < Γ.length
    · rw [List.getElem?_set_self hl] at e
      refine ⟨rfl, ?_⟩
      split at e
      · cases e
      · exact (Option.some.inj e).symm
    · rw [List.set_eq_of_length_le (by omega), List.getElem?_eq_none (by omega)] at e
      simp at e
  · right
    rw [List.getElem?_set_ne hij] at e
    exact ⟨hij, e⟩
end

section
variable {prog : Program} {w : World} {A : Around} {E : Value → Shared → Prop} {s : Shared} {B : Bs} {tbl : List (Str × Nat)} {env : Env} {Γ : Fm} {σ : Sg} {φ : List Addr}

theorem load_var {x : Str} {i : Nat} {v : V} {M : Model} {Q : Value → Shared → Prop} (F : FR B tbl env Γ σ φ s.heap) (hx : tbl.lookup x = some i) (hv : getV Γ i = some v)
    (hk : env.kindOf x = some .local ∨ env.kindOf x = some .cell ∨ env.kindOf x = some .free) (hd : x ≠ ("__classdict__" : Str)) (hq : ∀ cv, VR B σ φ s.heap v cv → Q cv s) : wpAny M A (loadName env x) Q E s := by
  rcases hk with hk | hk | hk
  · obtain ⟨m, hm, hval⟩ := F.ns
    obtain ⟨cv, e1, e2⟩ := hval x i v hx hv hk
    exact wpAny_loadName_local F.kind hk hm e1 (hq cv e2)
  · obtain ⟨c, cv, e1, e2, e3⟩ := F.cell x i v hx hv (.inl hk)
    exact wpAny_loadName_cell F.kind hk e1 e2 (hq cv e3)
  · obtain ⟨c, cv, e1, e2, e3⟩ := F.cell x i v hx hv (.inr hk)
    exact wpAny_loadName_free F.kind hk e1 e2 (hq cv e3) (by simpa using hd)

noncomputable def TInj (tbl : List (Str × Nat)) : Prop := ∀ x y i, tbl.lookup x = some i → tbl.lookup y = some i → x = y

theorem store_var {x : Str} {i : Nat} {v : V} {cv : Value} {M : Model} {Q : Unit → Shared → Prop} (R : SR B σ φ s.heap) (F : FR B tbl env Γ σ φ s.heap) (T : TInj tbl) (hap : env.cells.Pairwise fun x y => x.2 ≠ y.2) (hx : tbl.lookup x = some i)
    (hk : env.kindOf x = some .local ∨ (env.kindOf x = some .cell ∧ (env.cells.lookup x).isSome = true)) (r : VR B σ φ s.heap v cv)
    (hq : ∀ h' tk, SR B σ φ h' → FR B tbl env (Γ.set i v) σ φ h' → Stp (own env) σ φ s.heap σ φ h' → Q () { s with heap := h', toks := tk }) : wpAny M A (storeName env x cv) Q E s := by
  have liveKeep : ∀ c h', (c = env.locals ∨ ∃ y, (y, c) ∈ env.cells) → Heap.SameBut c s.heap h' → (∀ a o, live σ φ a → s.heap.get? a = some o → h'.get? a = some o) := by
    intro c h' hc hs a o L e
    refine hs.extBut a o (fun q => ?_) e
    subst q
    rcases hc with rfl | ⟨y, hy⟩
    · exact F.nl L
    · obtain ⟨u, hu⟩ := F.cells y a hy
      exact R.notlive_cell hu L
  have stp : ∀ c h', (c = env.locals ∨ ∃ y, (y, c) ∈ env.cells) → Heap.SameBut c s.heap h' → (∃ o, h'.get? c = some o) → Stp (own env) σ φ s.heap σ φ h' := by
    intro c h' hc hs hx
    refine ⟨fun _ _ e => e, fun j b hj e => (by rw [List.getElem?_eq_none hj] at e; cases e), fun _ e => e, fun b o e hl hW => hs.extBut b o (fun q => hW (q ▸ hc)) e, fun b o e => ?_⟩
    by_cases q : b = c
    · rw [q]; exact hx
    · exact ⟨o, hs.extBut b o q e⟩
  obtain ⟨m, hm, hval⟩ := F.ns
  have cellNe : ∀ y c u, (y, c) ∈ env.cells → s.heap.IsCell c u → c ≠ env.locals := by
    rintro y c u hy ⟨o, ho, hd⟩ rfl
    obtain ⟨o', es, ep, ho', hd', _⟩ := hm
    rw [ho] at ho'; cases ho'
    rw [hd] at hd'; cases hd'
  rcases hk with hk | ⟨hk, hc⟩
  · refine wpAny_storeName_local hk hm (fun h' hn hs => ?_) (by rw [F.kind]; rfl)
    have S := stp env.locals h' (.inl rfl) hs (let ⟨o, _, _, e, _⟩ := hn; ⟨o, e⟩)
    have R' := R.carry S F.apart (liveKeep _ h' (.inl rfl) hs) F.fresh
    refine hq h' _ R' ⟨F.kind, F.gl, F.bi, ⟨_, hn, fun y j u e1 e2 e3 => ?_⟩, fun y j u e1 e2 e3 => ?_, F.nl, fun y c hy => ?_, F.newL, F.newC, F.has⟩ S
    · rcases getV_set e2 with ⟨rfl, rfl⟩ | ⟨hij, e2⟩
      · have : y = x := T y x i e1 hx
        subst this
        exact ⟨cv, by simp, r.mono R S F.apart⟩
      · have : y ≠ x := fun q => hij (by rw [q, hx] at e1; exact Option.some.inj e1)
        obtain ⟨cu, e4, e5⟩ := hval y j u e1 e2 e3
        exact ⟨cu, by simp [this, e4], e5.mono R S F.apart⟩
    · rcases getV_set e2 with ⟨rfl, rfl⟩ | ⟨hij, e2⟩
      · have : y = x := T y x i e1 hx
        subst this
        rw [hk] at e3
        rcases e3 with e3 | e3 <;> cases e3
      · obtain ⟨c, cu, e4, e5, e6⟩ := F.cell y j u e1 e2 e3
        exact ⟨c, cu, e4, e5.sameBut hs (cellNe y c _ (mem_of_lookup e4) e5), e6.mono R S F.apart⟩
    · obtain ⟨u, hu⟩ := F.cells y c hy
      exact ⟨u, hu.sameBut hs (cellNe y c u hy hu)⟩
  · obtain ⟨c, hc⟩ := Option.isSome_iff_exists.mp hc
    have hmem := mem_of_lookup hc
    obtain ⟨v₀, hv₀⟩ := F.cells x c hmem
    refine wpAny_storeName_cell F.kind hk hc hv₀ fun h' hc' hs => ?_
    have S := stp c h' (.inr ⟨x, hmem⟩) hs (let ⟨o, e, _⟩ := hc'; ⟨o, e⟩)
    have R' := R.carry S F.apart (liveKeep _ h' (.inr ⟨x, hmem⟩) hs) F.fresh
    have hne := cellNe x c v₀ hmem hv₀
    refine hq h' _ R' ⟨F.kind, F.gl, F.bi, ⟨m, hm.sameBut hs (Ne.symm hne), fun y j u e1 e2 e3 => ?_⟩, fun y j u e1 e2 e3 => ?_, F.nl, fun y d hy => ?_, F.newL, F.newC, F.has⟩ S
    · rcases getV_set e2 with ⟨rfl, rfl⟩ | ⟨hij, e2⟩
      · have : y = x := T y x i e1 hx
        subst this
        rw [hk] at e3; cases e3
      · obtain ⟨cu, e4, e5⟩ := hval y j u e1 e2 e3
        exact ⟨cu, e4, e5.mono R S F.apart⟩
    · rcases getV_set e2 with ⟨rfl, rfl⟩ | ⟨hij, e2⟩
      · have : y = x := T y x i e1 hx
        subst this
        exact ⟨c, cv, hc, hc', r.mono R S F.apart⟩
      · have hyx : y ≠ x := fun q => hij (by rw [q, hx] at e1; exact Option.some.inj e1)
        obtain ⟨d, cu, e4, e5, e6⟩ := F.cell y j u e1 e2 e3
        refine ⟨d, cu, e4, e5.sameBut hs fun q => hyx (name_of_addr hap (mem_of_lookup e4) (q ▸ hmem)), e6.mono R S F.apart⟩
    · by_cases q : d = c
      · subst q; exact ⟨_, hc'⟩
      · obtain ⟨u, hu⟩ := F.cells y d hy
        exact ⟨u, hu.sameBut hs q⟩
end
end Mine

namespace Mine
open PySem PyProof.Rows PySem.Calls

/-- names of the text's own defs and of its written constants -/
structure Nm where
  fns : List Str
  gns : List Str

noncomputable def eqS (a b : Str) : Bool := a.cps.toList == b.cps.toList
theorem eqS_iff {a b : Str} : eqS a b = true ↔ a = b := by
  unfold eqS
  constructor
  · intro h
    obtain ⟨⟨a⟩⟩ := a
    obtain ⟨⟨b⟩⟩ := b
    have : a = b := by simpa using h
    rw [this]
  · rintro rfl; simp

noncomputable def lkS {α : Type} : List (Str × α) → Str → Option α
  | [], _ => none
  | (k, v) :: r, x => if eqS x k then some v else lkS r x
theorem lkS_eq {α : Type} : ∀ (l : List (Str × α)) (x : Str), lkS l x = l.lookup x
  | [], _ => rfl
  | (k, v) :: r, x => by
    rw [lkS, List.lookup_cons, lkS_eq r x]
    cases h : eqS x k with
    | true => rw [eqS_iff.mp h]; simp
    | false =>
      have : (x == k) = false := by
        cases hb : x == k with
        | false => rfl
        | true => rw [beq_iff_eq.mp hb, eqS_iff.mpr rfl] at h; cases h
      rw [this]; rfl

noncomputable def isVar : Option NameKind → Bool
  | some .local => true
  | some .cell => true
  | some .free => true
  | _ => false
noncomputable def isGlob : Option NameKind → Bool
  | some .globalImplicit => true
  | _ => false
noncomputable def isLoc : Option NameKind → Bool
  | some .local => true
  | _ => false
noncomputable def isCel : Option NameKind → Bool
  | some .cell => true
  | _ => false
noncomputable def isFree : NameKind → Bool
  | .free => true
  | _ => false
noncomputable def okId (id : Str) : Bool := !(eqS id (Str.ofString "__debug__")) && !(eqS id (Str.ofString "__classdict__"))

noncomputable def opIs : Bop → Operator → Bool
  | .add, .Add => true | .sub, .Sub => true | .mul, .Mult => true | .fdiv, .FloorDiv => true | .mod, .Mod => true
  | _, _ => false
theorem opIs_eq {o : Bop} {c : Operator} (h : opIs o c = true) : c = bop o := by cases o <;> cases c <;> first | rfl | cases h
noncomputable def copIs : Cop → CmpOp → Bool
  | .eq, .Eq => true | .ne, .NotEq => true | .lt, .Lt => true | .le, .LtE => true | .gt, .Gt => true | .ge, .GtE => true
  | .isin, .In => true | .notin, .NotIn => true | .is, .Is => true | .isnot, .IsNot => true
  | _, _ => false
theorem copIs_eq {o : Cop} {c : CmpOp} (h : copIs o c = true) : c = cop o := by cases o <;> cases c <;> first | rfl | cases h

/-- the built-ins by name -/
noncomputable def biOf : Bi → Option (Str × Value)
  | .len => some (Str.ofString "len", .builtin "len")
  | .sum => some (Str.ofString "sum", .builtin "sum")
  | .all => some (Str.ofString "all", .builtin "all")
  | .any => some (Str.ofString "any", .builtin "any")
  | .max1 => some (Str.ofString "max", .builtin "max")
  | .max2 => some (Str.ofString "max", .builtin "max")
  | .min2 => some (Str.ofString "min", .builtin "min")
  | .tuple => some (Str.ofString "tuple", .type "tuple")
  | .list => some (Str.ofString "list", .type "list")
  | .int => some (Str.ofString "int", .type "int")
  | _ => none
noncomputable def isaOf : Bi → Option (Str × String)
  | .isBool => some (Str.ofString "bool", "bool")
  | .isInt => some (Str.ofString "int", "int")
  | .isStr => some (Str.ofString "str", "str")
  | .isTup => some (Str.ofString "tuple", "tuple")
  | .isLst => some (Str.ofString "list", "list")
  | _ => none
noncomputable def sInst : Str := Str.ofString "isinstance"
noncomputable def sRange : Str := Str.ofString "range"
noncomputable def sRev : Str := Str.ofString "reversed"
noncomputable def baseOk : Expr → Bool
  | .Name .. => true
  | .Subscript .. => true
  | .Constant .. => true
  | _ => false
noncomputable def setOk : Expr → Bool
  | .Set .. => false
  | _ => true

noncomputable def plainTest : Expr → Bool
  | .UnaryOp .. => false
  | .BoolOp .. => false
  | .IfExp .. => false
  | .Compare .. => false
  | _ => true

noncomputable def relab (csc : List (Str × NameKind)) : List (Str × NameKind) := csc.map fun y => if isFree y.2 then (y.1, .cell) else y
noncomputable def scopeOk (sc : List (Str × NameKind)) (tbl : List (Str × Nat)) (nl : Nat) (csc : List (Str × NameKind)) (x : Str) : Bool :=
  isLoc (lkS csc x) && tbl.all (fun y => y.2 < nl) && csc.all (fun y => match y.2 with
    | .cell => false
    | .local => isLoc (lkS csc y.1) && (eqS y.1 x || (lkS tbl y.1).isNone)
    | .free => isCel (lkS sc y.1)
    | _ => true)

/-! ### looks at one node -/
structure Hn where
  name : Str → Bool
  const : Const → Bool
  boolOp : BoolOp → List Expr → Bool
  unary : UnaryOp → Expr → Bool
  bin : Expr → Operator → Expr → Bool
  cmp : Expr → List CmpOp → List Expr → Bool
  ifx : Expr → Expr → Expr → Bool
  tup : List Expr → Bool
  lst : List Expr → Bool
  comp : Expr → List Comprehension → Scope → Bool
  call : Expr → List Expr → List Keyword → Pos → Bool
  attr : Expr → Str → Pos → Bool
  sub : Expr → Expr → Bool
  slc : Option Expr → Option Expr → Option Expr → Bool
noncomputable def hn0 : Hn := ⟨fun _ => false, fun _ => false, fun _ _ => false, fun _ _ => false, fun _ _ _ => false, fun _ _ _ => false, fun _ _ _ => false, fun _ => false, fun _ => false, fun _ _ _ => false, fun _ _ _ _ => false, fun _ _ _ => false, fun _ _ => false, fun _ _ _ => false⟩
noncomputable def runE (h : Hn) (e : Expr) : Bool := match e with
  | .Name id _ => h.name id
  | .Constant c _ _ => h.const c
  | .BoolOp o l _ => h.boolOp o l
  | .UnaryOp o x _ => h.unary o x
  | .BinOp l o r _ => h.bin l o r
  | .Compare l o r _ => h.cmp l o r
  | .IfExp t u v _ => h.ifx t u v
  | .Tuple es _ _ => h.tup es
  | .List es _ => h.lst es
  | .ListComp x g s _ => h.comp x g s
  | .Call f es kw p => h.call f es kw p
  | .Attribute o n p => h.attr o n p
  | .Subscript v i _ => h.sub v i
  | .Slice a b c _ => h.slc a b c
  | _ => false
noncomputable def onName (e : Expr) (B : Str → Bool) : Bool := runE ⟨B, hn0.const, hn0.boolOp, hn0.unary, hn0.bin, hn0.cmp, hn0.ifx, hn0.tup, hn0.lst, hn0.comp, hn0.call, hn0.attr, hn0.sub, hn0.slc⟩ e
noncomputable def onConst (e : Expr) (B : Const → Bool) : Bool := runE ⟨hn0.name, B, hn0.boolOp, hn0.unary, hn0.bin, hn0.cmp, hn0.ifx, hn0.tup, hn0.lst, hn0.comp, hn0.call, hn0.attr, hn0.sub, hn0.slc⟩ e
noncomputable def onBoolOp (e : Expr) (B : BoolOp → List Expr → Bool) : Bool := runE ⟨hn0.name, hn0.const, B, hn0.unary, hn0.bin, hn0.cmp, hn0.ifx, hn0.tup, hn0.lst, hn0.comp, hn0.call, hn0.attr, hn0.sub, hn0.slc⟩ e
noncomputable def onUnary (e : Expr) (B : UnaryOp → Expr → Bool) : Bool := runE ⟨hn0.name, hn0.const, hn0.boolOp, B, hn0.bin, hn0.cmp, hn0.ifx, hn0.tup, hn0.lst, hn0.comp, hn0.call, hn0.attr, hn0.sub, hn0.slc⟩ e
noncomputable def onBin (e : Expr) (B : Expr → Operator → Expr → Bool) : Bool := runE ⟨hn0.name, hn0.const, hn0.boolOp, hn0.unary, B, hn0.cmp, hn0.ifx, hn0.tup, hn0.lst, hn0.comp, hn0.call, hn0.attr, hn0.sub, hn0.slc⟩ e
noncomputable def onCompare (e : Expr) (B : Expr → List CmpOp → List Expr → Bool) : Bool := runE ⟨hn0.name, hn0.const, hn0.boolOp, hn0.unary, hn0.bin, B, hn0.ifx, hn0.tup, hn0.lst, hn0.comp, hn0.call, hn0.attr, hn0.sub, hn0.slc⟩ e
noncomputable def onIfExp (e : Expr) (B : Expr → Expr → Expr → Bool) : Bool := runE ⟨hn0.name, hn0.const, hn0.boolOp, hn0.unary, hn0.bin, hn0.cmp, B, hn0.tup, hn0.lst, hn0.comp, hn0.call, hn0.attr, hn0.sub, hn0.slc⟩ e
noncomputable def onTuple (e : Expr) (B : List Expr → Bool) : Bool := runE ⟨hn0.name, hn0.const, hn0.boolOp, hn0.unary, hn0.bin, hn0.cmp, hn0.ifx, B, hn0.lst, hn0.comp, hn0.call, hn0.attr, hn0.sub, hn0.slc⟩ e
noncomputable def onList (e : Expr) (B : List Expr → Bool) : Bool := runE ⟨hn0.name, hn0.const, hn0.boolOp, hn0.unary, hn0.bin, hn0.cmp, hn0.ifx, hn0.tup, B, hn0.comp, hn0.call, hn0.attr, hn0.sub, hn0.slc⟩ e
noncomputable def onComp (e : Expr) (B : Expr → List Comprehension → Scope → Bool) : Bool := runE ⟨hn0.name, hn0.const, hn0.boolOp, hn0.unary, hn0.bin, hn0.cmp, hn0.ifx, hn0.tup, hn0.lst, B, hn0.call, hn0.attr, hn0.sub, hn0.slc⟩ e
noncomputable def onCall (e : Expr) (B : Expr → List Expr → List Keyword → Pos → Bool) : Bool := runE ⟨hn0.name, hn0.const, hn0.boolOp, hn0.unary, hn0.bin, hn0.cmp, hn0.ifx, hn0.tup, hn0.lst, hn0.comp, B, hn0.attr, hn0.sub, hn0.slc⟩ e
noncomputable def onAttr (e : Expr) (B : Expr → Str → Pos → Bool) : Bool := runE ⟨hn0.name, hn0.const, hn0.boolOp, hn0.unary, hn0.bin, hn0.cmp, hn0.ifx, hn0.tup, hn0.lst, hn0.comp, hn0.call, B, hn0.sub, hn0.slc⟩ e
noncomputable def onSub (e : Expr) (B : Expr → Expr → Bool) : Bool := runE ⟨hn0.name, hn0.const, hn0.boolOp, hn0.unary, hn0.bin, hn0.cmp, hn0.ifx, hn0.tup, hn0.lst, hn0.comp, hn0.call, hn0.attr, B, hn0.slc⟩ e
noncomputable def onSlice (e : Expr) (B : Option Expr → Option Expr → Option Expr → Bool) : Bool := runE ⟨hn0.name, hn0.const, hn0.boolOp, hn0.unary, hn0.bin, hn0.cmp, hn0.ifx, hn0.tup, hn0.lst, hn0.comp, hn0.call, hn0.attr, hn0.sub, B⟩ e
noncomputable def notStar : Expr → Bool
  | .Starred .. => false
  | _ => true
noncomputable def notSlice : Expr → Bool
  | .Slice .. => false
  | _ => true
noncomputable def nilL {α : Type} : List α → Bool
  | [] => true
  | _ => false
noncomputable def on1 {α : Type} (l : List α) (B : α → Bool) : Bool := match l with | [x] => B x | _ => false
noncomputable def on2 {α : Type} (l : List α) (B : α → α → Bool) : Bool := match l with | [x, y] => B x y | _ => false
noncomputable def onTwo {α : Type} (l : List α) (B : α → α → List α → Bool) : Bool := match l with | x :: y :: r => B x y r | _ => false
noncomputable def onO {α : Type} (o : Option α) (B : α → Bool) : Bool := match o with | some x => B x | none => false

theorem no_true {p : Prop} (h : false = true) : p := (Bool.false_ne_true h).elim

theorem runE_elim {h : Hn} {e : Expr} {z : Prop} (r : runE h e = true) (k0 : ∀ id p, e = .Name id p → h.name id = true → z) (k1 : ∀ c k p, e = .Constant c k p → h.const c = true → z) (k2 : ∀ o l p, e = .BoolOp o l p → h.boolOp o l = true → z) (k3 : ∀ o x p, e = .UnaryOp o x p → h.unary o x = true → z) (k4 : ∀ l o r p, e = .BinOp l o r p → h.bin l o r = true → z) (k5 : ∀ l o r p, e = .Compare l o r p → h.cmp l o r = true → z) (k6 : ∀ t u v p, e = .IfExp t u v p → h.ifx t u v = true → z) (k7 : ∀ es o p, e = .Tuple es o p → h.tup es = true → z) (k8 : ∀ es p, e = .List es p → h.lst es = true → z) (k9 : ∀ x g s p, e = .ListComp x g s p → h.comp x g s = true → z) (k10 : ∀ f es kw p, e = .Call f es kw p → h.call f es kw p = true → z) (k11 : ∀ o n p, e = .Attribute o n p → h.attr o n p = true → z) (k12 : ∀ v i p, e = .Subscript v i p → h.sub v i = true → z) (k13 : ∀ a b c p, e = .Slice a b c p → h.slc a b c = true → z) : z := by
  cases e with
  | Name id p => exact k0 _ _ rfl r
  | Constant c k p => exact k1 _ _ _ rfl r
  | BoolOp o l p => exact k2 _ _ _ rfl r
  | UnaryOp o x p => exact k3 _ _ _ rfl r
  | BinOp l o r p => exact k4 _ _ _ _ rfl r
  | Compare l o r p => exact k5 _ _ _ _ rfl r
  | IfExp t u v p => exact k6 _ _ _ _ rfl r
  | Tuple es o p => exact k7 _ _ _ rfl r
  | List es p => exact k8 _ _ rfl r
  | ListComp x g s p => exact k9 _ _ _ _ rfl r
  | Call f es kw p => exact k10 _ _ _ _ rfl r
  | Attribute o n p => exact k11 _ _ _ rfl r
  | Subscript v i p => exact k12 _ _ _ rfl r
  | Slice a b c p => exact k13 _ _ _ _ rfl r
  | _ => exact no_true r
theorem on_name {e : Expr} {B : Str → Bool} (h : onName e B = true) : ∃ id p, e = .Name id p ∧ B id = true := runE_elim (h := ⟨B, hn0.const, hn0.boolOp, hn0.unary, hn0.bin, hn0.cmp, hn0.ifx, hn0.tup, hn0.lst, hn0.comp, hn0.call, hn0.attr, hn0.sub, hn0.slc⟩) h (fun id p eq0 hb0 => ⟨id, p, eq0, hb0⟩) (fun _ _ _ _ f => no_true f) (fun _ _ _ _ f => no_true f) (fun _ _ _ _ f => no_true f) (fun _ _ _ _ _ f => no_true f) (fun _ _ _ _ _ f => no_true f) (fun _ _ _ _ _ f => no_true f) (fun _ _ _ _ f => no_true f) (fun _ _ _ f => no_true f) (fun _ _ _ _ _ f => no_true f) (fun _ _ _ _ _ f => no_true f) (fun _ _ _ _ f => no_true f) (fun _ _ _ _ f => no_true f) (fun _ _ _ _ _ f => no_true f)
theorem on_const {e : Expr} {B : Const → Bool} (h : onConst e B = true) : ∃ c k p, e = .Constant c k p ∧ B c = true := runE_elim (h := ⟨hn0.name, B, hn0.boolOp, hn0.unary, hn0.bin, hn0.cmp, hn0.ifx, hn0.tup, hn0.lst, hn0.comp, hn0.call, hn0.attr, hn0.sub, hn0.slc⟩) h (fun _ _ _ f => no_true f) (fun c k p eq0 hb0 => ⟨c, k, p, eq0, hb0⟩) (fun _ _ _ _ f => no_true f) (fun _ _ _ _ f => no_true f) (fun _ _ _ _ _ f => no_true f) (fun _ _ _ _ _ f => no_true f) (fun _ _ _ _ _ f => no_true f) (fun _ _ _ _ f => no_true f) (fun _ _ _ f => no_true f) (fun _ _ _ _ _ f => no_true f) (fun _ _ _ _ _ f => no_true f) (fun _ _ _ _ f => no_true f) (fun _ _ _ _ f => no_true f) (fun _ _ _ _ _ f => no_true f)
theorem on_boolOp {e : Expr} {B : BoolOp → List Expr → Bool} (h : onBoolOp e B = true) : ∃ o l p, e = .BoolOp o l p ∧ B o l = true := runE_elim (h := ⟨hn0.name, hn0.const, B, hn0.unary, hn0.bin, hn0.cmp, hn0.ifx, hn0.tup, hn0.lst, hn0.comp, hn0.call, hn0.attr, hn0.sub, hn0.slc⟩) h (fun _ _ _ f => no_true f) (fun _ _ _ _ f => no_true f) (fun o l p eq0 hb0 => ⟨o, l, p, eq0, hb0⟩) (fun _ _ _ _ f => no_true f) (fun _ _ _ _ _ f => no_true f) (fun _ _ _ _ _ f => no_true f) (fun _ _ _ _ _ f => no_true f) (fun _ _ _ _ f => no_true f) (fun _ _ _ f => no_true f) (fun _ _ _ _ _ f => no_true f) (fun _ _ _ _ _ f => no_true f) (fun _ _ _ _ f => no_true f) (fun _ _ _ _ f => no_true f) (fun _ _ _ _ _ f => no_true f)
theorem on_unary {e : Expr} {B : UnaryOp → Expr → Bool} (h : onUnary e B = true) : ∃ o x p, e = .UnaryOp o x p ∧ B o x = true := runE_elim (h := ⟨hn0.name, hn0.const, hn0.boolOp, B, hn0.bin, hn0.cmp, hn0.ifx, hn0.tup, hn0.lst, hn0.comp, hn0.call, hn0.attr, hn0.sub, hn0.slc⟩) h (fun _ _ _ f => no_true f) (fun _ _ _ _ f => no_true f) (fun _ _ _ _ f => no_true f) (fun o x p eq0 hb0 => ⟨o, x, p, eq0, hb0⟩) (fun _ _ _ _ _ f => no_true f) (fun _ _ _ _ _ f => no_true f) (fun _ _ _ _ _ f => no_true f) (fun _ _ _ _ f => no_true f) (fun _ _ _ f => no_true f) (fun _ _ _ _ _ f => no_true f) (fun _ _ _ _ _ f => no_true f) (fun _ _ _ _ f => no_true f) (fun _ _ _ _ f => no_true f) (fun _ _ _ _ _ f => no_true f)
theorem on_bin {e : Expr} {B : Expr → Operator → Expr → Bool} (h : onBin e B = true) : ∃ l o r p, e = .BinOp l o r p ∧ B l o r = true := runE_elim (h := ⟨hn0.name, hn0.const, hn0.boolOp, hn0.unary, B, hn0.cmp, hn0.ifx, hn0.tup, hn0.lst, hn0.comp, hn0.call, hn0.attr, hn0.sub, hn0.slc⟩) h (fun _ _ _ f => no_true f) (fun _ _ _ _ f => no_true f) (fun _ _ _ _ f => no_true f) (fun _ _ _ _ f => no_true f) (fun l o r p eq0 hb0 => ⟨l, o, r, p, eq0, hb0⟩) (fun _ _ _ _ _ f => no_true f) (fun _ _ _ _ _ f => no_true f) (fun _ _ _ _ f => no_true f) (fun _ _ _ f => no_true f) (fun _ _ _ _ _ f => no_true f) (fun _ _ _ _ _ f => no_true f) (fun _ _ _ _ f => no_true f) (fun _ _ _ _ f => no_true f) (fun _ _ _ _ _ f => no_true f)
theorem on_compare {e : Expr} {B : Expr → List CmpOp → List Expr → Bool} (h : onCompare e B = true) : ∃ l o r p, e = .Compare l o r p ∧ B l o r = true := runE_elim (h := ⟨hn0.name, hn0.const, hn0.boolOp, hn0.unary, hn0.bin, B, hn0.ifx, hn0.tup, hn0.lst, hn0.comp, hn0.call, hn0.attr, hn0.sub, hn0.slc⟩) h (fun _ _ _ f => no_true f) (fun _ _ _ _ f => no_true f) (fun _ _ _ _ f => no_true f) (fun _ _ _ _ f => no_true f) (fun _ _ _ _ _ f => no_true f) (fun l o r p eq0 hb0 => ⟨l, o, r, p, eq0, hb0⟩) (fun _ _ _ _ _ f => no_true f) (fun _ _ _ _ f => no_true f) (fun _ _ _ f => no_true f) (fun _ _ _ _ _ f => no_true f) (fun _ _ _ _ _ f => no_true f) (fun _ _ _ _ f => no_true f) (fun _ _ _ _ f => no_true f) (fun _ _ _ _ _ f => no_true f)
theorem on_ifExp {e : Expr} {B : Expr → Expr → Expr → Bool} (h : onIfExp e B = true) : ∃ t u v p, e = .IfExp t u v p ∧ B t u v = true := runE_elim (h := ⟨hn0.name, hn0.const, hn0.boolOp, hn0.unary, hn0.bin, hn0.cmp, B, hn0.tup, hn0.lst, hn0.comp, hn0.call, hn0.attr, hn0.sub, hn0.slc⟩) h (fun _ _ _ f => no_true f) (fun _ _ _ _ f => no_true f) (fun _ _ _ _ f => no_true f) (fun _ _ _ _ f => no_true f) (fun _ _ _ _ _ f => no_true f) (fun _ _ _ _ _ f => no_true f) (fun t u v p eq0 hb0 => ⟨t, u, v, p, eq0, hb0⟩) (fun _ _ _ _ f => no_true f) (fun _ _ _ f => no_true f) (fun _ _ _ _ _ f => no_true f) (fun _ _ _ _ _ f => no_true f) (fun _ _ _ _ f => no_true f) (fun _ _ _ _ f => no_true f) (fun _ _ _ _ _ f => no_true f)
theorem on_tuple {e : Expr} {B : List Expr → Bool} (h : onTuple e B = true) : ∃ es o p, e = .Tuple es o p ∧ B es = true := runE_elim (h := ⟨hn0.name, hn0.const, hn0.boolOp, hn0.unary, hn0.bin, hn0.cmp, hn0.ifx, B, hn0.lst, hn0.comp, hn0.call, hn0.attr, hn0.sub, hn0.slc⟩) h (fun _ _ _ f => no_true f) (fun _ _ _ _ f => no_true f) (fun _ _ _ _ f => no_true f) (fun _ _ _ _ f => no_true f) (fun _ _ _ _ _ f => no_true f) (fun _ _ _ _ _ f => no_true f) (fun _ _ _ _ _ f => no_true f) (fun es o p eq0 hb0 => ⟨es, o, p, eq0, hb0⟩) (fun _ _ _ f => no_true f) (fun _ _ _ _ _ f => no_true f) (fun _ _ _ _ _ f => no_true f) (fun _ _ _ _ f => no_true f) (fun _ _ _ _ f => no_true f) (fun _ _ _ _ _ f => no_true f)
theorem on_list {e : Expr} {B : List Expr → Bool} (h : onList e B = true) : ∃ es p, e = .List es p ∧ B es = true := runE_elim (h := ⟨hn0.name, hn0.const, hn0.boolOp, hn0.unary, hn0.bin, hn0.cmp, hn0.ifx, hn0.tup, B, hn0.comp, hn0.call, hn0.attr, hn0.sub, hn0.slc⟩) h (fun _ _ _ f => no_true f) (fun _ _ _ _ f => no_true f) (fun _ _ _ _ f => no_true f) (fun _ _ _ _ f => no_true f) (fun _ _ _ _ _ f => no_true f) (fun _ _ _ _ _ f => no_true f) (fun _ _ _ _ _ f => no_true f) (fun _ _ _ _ f => no_true f) (fun es p eq0 hb0 => ⟨es, p, eq0, hb0⟩) (fun _ _ _ _ _ f => no_true f) (fun _ _ _ _ _ f => no_true f) (fun _ _ _ _ f => no_true f) (fun _ _ _ _ f => no_true f) (fun _ _ _ _ _ f => no_true f)
theorem on_comp {e : Expr} {B : Expr → List Comprehension → Scope → Bool} (h : onComp e B = true) : ∃ x g s p, e = .ListComp x g s p ∧ B x g s = true := runE_elim (h := ⟨hn0.name, hn0.const, hn0.boolOp, hn0.unary, hn0.bin, hn0.cmp, hn0.ifx, hn0.tup, hn0.lst, B, hn0.call, hn0.attr, hn0.sub, hn0.slc⟩) h (fun _ _ _ f => no_true f) (fun _ _ _ _ f => no_true f) (fun _ _ _ _ f => no_true f) (fun _ _ _ _ f => no_true f) (fun _ _ _ _ _ f => no_true f) (fun _ _ _ _ _ f => no_true f) (fun _ _ _ _ _ f => no_true f) (fun _ _ _ _ f => no_true f) (fun _ _ _ f => no_true f) (fun x g s p eq0 hb0 => ⟨x, g, s, p, eq0, hb0⟩) (fun _ _ _ _ _ f => no_true f) (fun _ _ _ _ f => no_true f) (fun _ _ _ _ f => no_true f) (fun _ _ _ _ _ f => no_true f)
theorem on_call {e : Expr} {B : Expr → List Expr → List Keyword → Pos → Bool} (h : onCall e B = true) : ∃ f es kw p, e = .Call f es kw p ∧ B f es kw p = true := runE_elim (h := ⟨hn0.name, hn0.const, hn0.boolOp, hn0.unary, hn0.bin, hn0.cmp, hn0.ifx, hn0.tup, hn0.lst, hn0.comp, B, hn0.attr, hn0.sub, hn0.slc⟩) h (fun _ _ _ f => no_true f) (fun _ _ _ _ f => no_true f) (fun _ _ _ _ f => no_true f) (fun _ _ _ _ f => no_true f) (fun _ _ _ _ _ f => no_true f) (fun _ _ _ _ _ f => no_true f) (fun _ _ _ _ _ f => no_true f) (fun _ _ _ _ f => no_true f) (fun _ _ _ f => no_true f) (fun _ _ _ _ _ f => no_true f) (fun f es kw p eq0 hb0 => ⟨f, es, kw, p, eq0, hb0⟩) (fun _ _ _ _ f => no_true f) (fun _ _ _ _ f => no_true f) (fun _ _ _ _ _ f => no_true f)
theorem on_attr {e : Expr} {B : Expr → Str → Pos → Bool} (h : onAttr e B = true) : ∃ o n p, e = .Attribute o n p ∧ B o n p = true := runE_elim (h := ⟨hn0.name, hn0.const, hn0.boolOp, hn0.unary, hn0.bin, hn0.cmp, hn0.ifx, hn0.tup, hn0.lst, hn0.comp, hn0.call, B, hn0.sub, hn0.slc⟩) h (fun _ _ _ f => no_true f) (fun _ _ _ _ f => no_true f) (fun _ _ _ _ f => no_true f) (fun _ _ _ _ f => no_true f) (fun _ _ _ _ _ f => no_true f) (fun _ _ _ _ _ f => no_true f) (fun _ _ _ _ _ f => no_true f) (fun _ _ _ _ f => no_true f) (fun _ _ _ f => no_true f) (fun _ _ _ _ _ f => no_true f) (fun _ _ _ _ _ f => no_true f) (fun o n p eq0 hb0 => ⟨o, n, p, eq0, hb0⟩) (fun _ _ _ _ f => no_true f) (fun _ _ _ _ _ f => no_true f)
theorem on_sub {e : Expr} {B : Expr → Expr → Bool} (h : onSub e B = true) : ∃ v i p, e = .Subscript v i p ∧ B v i = true := runE_elim (h := ⟨hn0.name, hn0.const, hn0.boolOp, hn0.unary, hn0.bin, hn0.cmp, hn0.ifx, hn0.tup, hn0.lst, hn0.comp, hn0.call, hn0.attr, B, hn0.slc⟩) h (fun _ _ _ f => no_true f) (fun _ _ _ _ f => no_true f) (fun _ _ _ _ f => no_true f) (fun _ _ _ _ f => no_true f) (fun _ _ _ _ _ f => no_true f) (fun _ _ _ _ _ f => no_true f) (fun _ _ _ _ _ f => no_true f) (fun _ _ _ _ f => no_true f) (fun _ _ _ f => no_true f) (fun _ _ _ _ _ f => no_true f) (fun _ _ _ _ _ f => no_true f) (fun _ _ _ _ f => no_true f) (fun v i p eq0 hb0 => ⟨v, i, p, eq0, hb0⟩) (fun _ _ _ _ _ f => no_true f)
theorem on_slice {e : Expr} {B : Option Expr → Option Expr → Option Expr → Bool} (h : onSlice e B = true) : ∃ a b c p, e = .Slice a b c p ∧ B a b c = true := runE_elim (h := ⟨hn0.name, hn0.const, hn0.boolOp, hn0.unary, hn0.bin, hn0.cmp, hn0.ifx, hn0.tup, hn0.lst, hn0.comp, hn0.call, hn0.attr, hn0.sub, B⟩) h (fun _ _ _ f => no_true f) (fun _ _ _ _ f => no_true f) (fun _ _ _ _ f => no_true f) (fun _ _ _ _ f => no_true f) (fun _ _ _ _ _ f => no_true f) (fun _ _ _ _ _ f => no_true f) (fun _ _ _ _ _ f => no_true f) (fun _ _ _ _ f => no_true f) (fun _ _ _ f => no_true f) (fun _ _ _ _ _ f => no_true f) (fun _ _ _ _ _ f => no_true f) (fun _ _ _ _ f => no_true f) (fun _ _ _ _ f => no_true f) (fun a b c p eq0 hb0 => ⟨a, b, c, p, eq0, hb0⟩)
theorem nilL_eq {α : Type} {l : List α} (h : nilL l = true) : l = [] := by cases l with | nil => rfl | cons _ _ => exact no_true h
theorem on_1 {α : Type} {l : List α} {B : α → Bool} (h : on1 l B = true) : ∃ x, l = [x] ∧ B x = true := by
  match l, h with
  | [x], h => exact ⟨x, rfl, h⟩
theorem on_2 {α : Type} {l : List α} {B : α → α → Bool} (h : on2 l B = true) : ∃ x y, l = [x, y] ∧ B x y = true := by
  match l, h with
  | [x, y], h => exact ⟨x, y, rfl, h⟩
theorem on_two {α : Type} {l : List α} {B : α → α → List α → Bool} (h : onTwo l B = true) : ∃ x y r, l = x :: y :: r ∧ B x y r = true := by
  match l, h with
  | x :: y :: r, h => exact ⟨x, y, r, rfl, h⟩
theorem on_o {α : Type} {o : Option α} {B : α → Bool} (h : onO o B = true) : ∃ x, o = some x ∧ B x = true := by
  cases o with
  | none => exact no_true h
  | some x => exact ⟨x, rfl, h⟩
theorem both {a b : Bool} (h : (a && b) = true) : a = true ∧ b = true := (Bool.and_eq_true _ _).mp h

/-- a call of a plain name -/
noncomputable def onCallN (e : Expr) (B : Str → List Expr → Bool) : Bool := onCall e fun f es kw _ => nilL kw && onName f fun id => B id es
theorem on_callN {e : Expr} {B : Str → List Expr → Bool} (h : onCallN e B = true) : ∃ id p es q, e = .Call (.Name id p) es [] q ∧ B id es = true := by
  obtain ⟨f, es, kw, q, rfl, h⟩ := on_call h
  obtain ⟨h1, h2⟩ := both h
  obtain ⟨id, p, rfl, h3⟩ := on_name h2
  rw [nilL_eq h1]
  exact ⟨id, p, es, q, rfl, h3⟩
/-- a call of a method on one line -/
noncomputable def onMeth (e : Expr) (B : Expr → Str → List Expr → Bool) : Bool := onCall e fun f es kw pos => nilL kw && onAttr f fun o n ap => baseOk o && ap.endLine == pos.line && B o n es
theorem on_meth {e : Expr} {B : Expr → Str → List Expr → Bool} (h : onMeth e B = true) : ∃ o n ap es q, e = .Call (.Attribute o n ap) es [] q ∧ baseOk o = true ∧ (ap.endLine == q.line) = true ∧ B o n es = true := by
  obtain ⟨f, es, kw, q, rfl, h⟩ := on_call h
  obtain ⟨h1, h2⟩ := both h
  obtain ⟨o, n, ap, rfl, h3⟩ := on_attr h2
  obtain ⟨h4, h5⟩ := both h3
  obtain ⟨h6, h7⟩ := both h4
  rw [nilL_eq h1]
  exact ⟨o, n, ap, es, q, rfl, h6, h7, h5⟩

noncomputable def isNoneX : Ex → Bool
  | .cNone => true
  | _ => false
theorem isNoneX_eq {x : Ex} (h : isNoneX x = true) : x = .cNone := by cases x <;> first | rfl | exact no_true h
noncomputable def isConstN : Const → Bool
  | .none => true
  | _ => false
noncomputable def isConstB (b : Bool) : Const → Bool
  | .bool c => b == c
  | _ => false
noncomputable def isConstI (i : Int) : Const → Bool
  | .int j => i == j
  | _ => false
noncomputable def isConstS (s : List Nat) : Const → Bool
  | .str t => t.cps.toList == s && s.length ≤ 1000
  | _ => false
noncomputable def isAnd : BoolOp → Bool
  | .And => true
  | _ => false
noncomputable def isNot : UnaryOp → Bool
  | .Not => true
  | _ => false
noncomputable def isUSub : UnaryOp → Bool
  | .USub => true
  | _ => false
noncomputable def isFn : ScopeKind → Bool
  | .function => true
  | _ => false
theorem isFn_eq {k : ScopeKind} (h : isFn k = true) : k = .function := by cases k <;> first | rfl | exact no_true h
noncomputable def nameAt (l : List Str) (f : Nat) (id : Str) : Bool := onO l[f]? fun y => eqS y id
theorem nameAt_eq {l : List Str} {f : Nat} {id : Str} (h : nameAt l f id = true) : l[f]? = some id := by
  obtain ⟨y, h1, h2⟩ := on_o h
  rw [h1, eqS_iff.mp h2]
noncomputable def globOk (sc : List (Str × NameKind)) (id : Str) : Bool := isGlob (lkS sc id) && okId id

/-- the shapes whose truth is asked plainly -/
noncomputable def exTest : Ex → Bool
  | .not _ | .neg _ | .and _ _ | .or _ _ | .ite _ _ _ | .cmp _ _ _ | .cmp2 _ _ _ _ _ => false
  | _ => true
noncomputable def tstOk (e : Expr) (x : Ex) : Bool := !exTest x || plainTest e

mutual
noncomputable def chkE (N : Nm) : Nat → List (Str × NameKind) → List (Str × Nat) → Nat → Expr → Ex → Bool
  | 0, _, _, _, _, _ => false
  | n + 1, sc, tbl, nl, e, x => match x with
    | .frz _ => false
    | .cNone => onConst e isConstN
    | .cBool b => onConst e (isConstB b)
    | .cInt i => onConst e (isConstI i)
    | .cStr s => onConst e (isConstS s)
    | .var i => onName e fun id => lkS tbl id == some i && isVar (lkS sc id) && okId id
    | .glob g => onName e fun id => nameAt N.gns g id && globOk sc id
    | .and a b => onBoolOp e fun o l => isAnd o && onTwo l fun v w r => tstOk v a && (chkE N n sc tbl nl v a && chkL N n sc tbl nl true w r b)
    | .or a b => onBoolOp e fun o l => !isAnd o && onTwo l fun v w r => tstOk v a && (chkE N n sc tbl nl v a && chkL N n sc tbl nl false w r b)
    | .not a => onUnary e fun o x => isNot o && (tstOk x a && chkE N n sc tbl nl x a)
    | .neg a => onUnary e fun o x => isUSub o && chkE N n sc tbl nl x a
    | .bin o a b => onBin e fun l op r => opIs o op && (chkE N n sc tbl nl l a && chkE N n sc tbl nl r b)
    | .cmp o a b => onCompare e fun l ops rs => on1 ops fun op => on1 rs fun r => copIs o op && (setOk r && (chkE N n sc tbl nl l a && chkE N n sc tbl nl r b))
    | .cmp2 o1 o2 a b c => onCompare e fun l ops rs => on2 ops fun p1 p2 => on2 rs fun m r => copIs o1 p1 && (copIs o2 p2 && (setOk m && (setOk r && (chkE N n sc tbl nl l a && (chkE N n sc tbl nl m b && chkE N n sc tbl nl r c)))))
    | .ite c a b => onIfExp e fun t u v => tstOk t c && (tstOk u a && (tstOk v b && (chkE N n sc tbl nl t c && (chkE N n sc tbl nl u a && chkE N n sc tbl nl v b))))
    | .tup xs => onTuple e fun es => chkEs N n sc tbl nl es xs
    | .lst _ xs => onList e fun es => chkEs N n sc tbl nl es xs
    | .dict _ => false
    | .comp _ elt ik a b cond => onComp e fun ee gs csc => on1 gs fun g => onName g.target fun cx =>
        g.is_async == 0 && (isFn csc.kind && (scopeOk sc tbl nl csc.names cx && (chkI N n sc tbl nl g.iter ik a b &&
          (chkE N n (relab csc.names) ((cx, nl) :: tbl) (nl + 1) ee elt && chkIf N n (relab csc.names) ((cx, nl) :: tbl) (nl + 1) g.ifs cond))))
    | .call f xs => onCallN e fun id es => nameAt N.fns f id && (globOk sc id && (!es.isEmpty && (es.length ≤ 20 && chkEs N n sc tbl nl es xs)))
    | .bi b xs => (match isaOf b with
      | some y => onCallN e fun id es => on2 es fun e ty => on1 xs fun x => onName ty fun ty => eqS id sInst && (eqS ty y.1 && (globOk sc id && (globOk sc ty && (notStar e && chkE N n sc tbl nl e x))))
      | none => onO (biOf b) fun y => onCallN e fun id es => eqS id y.1 && (globOk sc id && (!es.isEmpty && (es.length ≤ 20 && chkEs N n sc tbl nl es xs))))
    | .slice x lo hi => onSub e fun v i => onSlice i fun lo' hi' st => st.isNone && (chkE N n sc tbl nl v x && (chkO N n sc tbl nl lo' lo && chkO N n sc tbl nl hi' hi))
    | .idx x i => onSub e fun v j => notSlice j && (chkE N n sc tbl nl v x && chkE N n sc tbl nl j i)
    | .app ox ax => onMeth e fun o name es => on1 es fun e => eqS name (Str.ofString "append") && (notStar e && (chkE N n sc tbl nl o ox && chkE N n sc tbl nl e ax))
    | .join ox ax => onMeth e fun o name es => on1 es fun e => eqS name (Str.ofString "join") && (notStar e && (chkE N n sc tbl nl o ox && chkE N n sc tbl nl e ax))
    | .pop ox => onMeth e fun o name es => nilL es && (eqS name (Str.ofString "pop") && chkE N n sc tbl nl o ox)
    | .clear _ => false
    | .rvs _ => false
termination_by structural n => n
noncomputable def chkEs (N : Nm) : Nat → List (Str × NameKind) → List (Str × Nat) → Nat → List Expr → List Ex → Bool
  | 0, _, _, _, _, _ => false
  | _ + 1, _, _, _, [], [] => true
  | n + 1, sc, tbl, nl, e :: es, x :: xs => notStar e && (chkE N n sc tbl nl e x && chkEs N n sc tbl nl es xs)
  | _ + 1, _, _, _, _, _ => false
termination_by structural n => n
noncomputable def chkL (N : Nm) : Nat → List (Str × NameKind) → List (Str × Nat) → Nat → Bool → Expr → List Expr → Ex → Bool
  | 0, _, _, _, _, _, _, _ => false
  | n + 1, sc, tbl, nl, o, v, r, x => match r with
    | [] => tstOk v x && chkE N n sc tbl nl v x
    | w :: r => (match x with
      | .and a b => o && (tstOk v a && (chkE N n sc tbl nl v a && chkL N n sc tbl nl o w r b))
      | .or a b => !o && (tstOk v a && (chkE N n sc tbl nl v a && chkL N n sc tbl nl o w r b))
      | _ => false)
termination_by structural n => n
noncomputable def chkIf (N : Nm) : Nat → List (Str × NameKind) → List (Str × Nat) → Nat → List Expr → Option Ex → Bool
  | 0, _, _, _, _, _ => false
  | n + 1, sc, tbl, nl, l, x => match x with
    | none => nilL l
    | some x => on1 l fun e => tstOk e x && chkE N n sc tbl nl e x
termination_by structural n => n
noncomputable def chkO (N : Nm) : Nat → List (Str × NameKind) → List (Str × Nat) → Nat → Option Expr → Option Ex → Bool
  | 0, _, _, _, _, _ => false
  | n + 1, sc, tbl, nl, o, x => match x with
    | none => o.isNone
    | some x => onO o fun e => chkE N n sc tbl nl e x
termination_by structural n => n
noncomputable def chkI (N : Nm) : Nat → List (Str × NameKind) → List (Str × Nat) → Nat → Expr → IK → Ex → Ex → Bool
  | 0, _, _, _, _, _, _, _ => false
  | n + 1, sc, tbl, nl, e, ik, a, b => setOk e && (match ik with
    | .val => isNoneX b && chkE N n sc tbl nl e a
    | .rng1 => onCallN e fun id es => on1 es fun e => isNoneX b && (eqS id sRange && (globOk sc id && (notStar e && chkE N n sc tbl nl e a)))
    | .rng2 => onCallN e fun id es => on2 es fun e f => eqS id sRange && (globOk sc id && (notStar e && (notStar f && (chkE N n sc tbl nl e a && chkE N n sc tbl nl f b))))
    | .rev => onCallN e fun id es => on1 es fun e => isNoneX b && (eqS id sRev && (globOk sc id && (notStar e && chkE N n sc tbl nl e a))))
termination_by structural n => n
end

/-- a name that the frame stores -/
noncomputable def stoOk (sc : List (Str × NameKind)) (tbl : List (Str × Nat)) (id : Str) (i : Nat) : Bool := lkS tbl id == some i && (isLoc (lkS sc id) || isCel (lkS sc id)) && okId id
noncomputable def isComp : Ex → Bool
  | .comp .. => true
  | _ => false
noncomputable def compOf : Expr → Bool
  | .ListComp .. => true
  | .SetComp .. => true
  | .DictComp .. => true
  | _ => false

structure Hs where
  exprS : Expr → Bool
  ret : Option Expr → Bool
  asg : List Expr → Expr → Bool
  ifs : Expr → List Stmt → List Stmt → Bool
  whl : Expr → List Stmt → List Stmt → Bool
  fr : Expr → Expr → List Stmt → List Stmt → Bool
noncomputable def hs0 : Hs := ⟨fun _ => false, fun _ => false, fun _ _ => false, fun _ _ _ => false, fun _ _ _ => false, fun _ _ _ _ => false⟩
noncomputable def runS (h : Hs) (s : Stmt) : Bool := match s with
  | .Expr e _ => h.exprS e
  | .Return e _ => h.ret e
  | .Assign t e _ => h.asg t e
  | .If t a b _ => h.ifs t a b
  | .While t a b _ => h.whl t a b
  | .For t e a b _ => h.fr t e a b
  | _ => false
noncomputable def onExprS (s : Stmt) (B : Expr → Bool) : Bool := runS ⟨B, hs0.ret, hs0.asg, hs0.ifs, hs0.whl, hs0.fr⟩ s
noncomputable def onReturn (s : Stmt) (B : Option Expr → Bool) : Bool := runS ⟨hs0.exprS, B, hs0.asg, hs0.ifs, hs0.whl, hs0.fr⟩ s
noncomputable def onAssign (s : Stmt) (B : List Expr → Expr → Bool) : Bool := runS ⟨hs0.exprS, hs0.ret, B, hs0.ifs, hs0.whl, hs0.fr⟩ s
noncomputable def onIf (s : Stmt) (B : Expr → List Stmt → List Stmt → Bool) : Bool := runS ⟨hs0.exprS, hs0.ret, hs0.asg, B, hs0.whl, hs0.fr⟩ s
noncomputable def onWhile (s : Stmt) (B : Expr → List Stmt → List Stmt → Bool) : Bool := runS ⟨hs0.exprS, hs0.ret, hs0.asg, hs0.ifs, B, hs0.fr⟩ s
noncomputable def onFor (s : Stmt) (B : Expr → Expr → List Stmt → List Stmt → Bool) : Bool := runS ⟨hs0.exprS, hs0.ret, hs0.asg, hs0.ifs, hs0.whl, B⟩ s

mutual
noncomputable def chkS (N : Nm) : Nat → List (Str × NameKind) → List (Str × Nat) → Nat → Stmt → St → Bool
  | 0, _, _, _, _, _ => false
  | n + 1, sc, tbl, nl, s, x => match x with
    | .expr x => onExprS s fun e => !compOf e && chkE N n sc tbl nl e x
    | .ret x => onReturn s fun o => onO o fun e => chkE N n sc tbl nl e x
    | .asg i x => onAssign s fun t e => on1 t fun t => onName t fun id => stoOk sc tbl id i && ((!compOf e || isComp x) && chkE N n sc tbl nl e x)
    | .sto xo xi xe => onAssign s fun t e => on1 t fun t => onSub t fun o i => !compOf e && (chkE N n sc tbl nl e xe && (chkE N n sc tbl nl o xo && chkE N n sc tbl nl i xi))
    | .ite c x y => onIf s fun t a b => tstOk t c && (chkE N n sc tbl nl t c && (chkB N n sc tbl nl a x && chkB N n sc tbl nl b y))
    | .while c x => onWhile s fun t a b => nilL b && (tstOk t c && (chkE N n sc tbl nl t c && chkB N n sc tbl nl a x))
    | .for i ik x y bd => onFor s fun t e a b => nilL b && onName t fun id => stoOk sc tbl id i && (chkI N n sc tbl nl e ik x y && chkB N n sc tbl nl a bd)
    | .raise _ => true
    | .try _ _ => false
termination_by structural n => n
noncomputable def chkB (N : Nm) : Nat → List (Str × NameKind) → List (Str × Nat) → Nat → List Stmt → List St → Bool
  | 0, _, _, _, _, _ => false
  | _ + 1, _, _, _, [], [] => true
  | n + 1, sc, tbl, nl, s :: r, x :: y => chkS N n sc tbl nl s x && chkB N n sc tbl nl r y
  | _ + 1, _, _, _, _, _ => false
termination_by structural n => n
end

theorem runS_elim {h : Hs} {s : Stmt} {z : Prop} (r : runS h s = true) (k0 : ∀ e p, s = .Expr e p → h.exprS e = true → z) (k1 : ∀ e p, s = .Return e p → h.ret e = true → z) (k2 : ∀ t e p, s = .Assign t e p → h.asg t e = true → z) (k3 : ∀ t a b p, s = .If t a b p → h.ifs t a b = true → z) (k4 : ∀ t a b p, s = .While t a b p → h.whl t a b = true → z) (k5 : ∀ t e a b p, s = .For t e a b p → h.fr t e a b = true → z) : z := by
  cases s with
  | Expr e p => exact k0 _ _ rfl r
  | Return e p => exact k1 _ _ rfl r
  | Assign t e p => exact k2 _ _ _ rfl r
  | If t a b p => exact k3 _ _ _ _ rfl r
  | While t a b p => exact k4 _ _ _ _ rfl r
  | For t e a b p => exact k5 _ _ _ _ _ rfl r
  | _ => exact no_true r
theorem on_exprS {s : Stmt} {B : Expr → Bool} (h : onExprS s B = true) : ∃ e p, s = .Expr e p ∧ B e = true := runS_elim (h := ⟨B, hs0.ret, hs0.asg, hs0.ifs, hs0.whl, hs0.fr⟩) h (fun e p eq0 hb0 => ⟨e, p, eq0, hb0⟩) (fun _ _ _ f => no_true f) (fun _ _ _ _ f => no_true f) (fun _ _ _ _ _ f => no_true f) (fun _ _ _ _ _ f => no_true f) (fun _ _ _ _ _ _ f => no_true f)
theorem on_return {s : Stmt} {B : Option Expr → Bool} (h : onReturn s B = true) : ∃ e p, s = .Return e p ∧ B e = true := runS_elim (h := ⟨hs0.exprS, B, hs0.asg, hs0.ifs, hs0.whl, hs0.fr⟩) h (fun _ _ _ f => no_true f) (fun e p eq0 hb0 => ⟨e, p, eq0, hb0⟩) (fun _ _ _ _ f => no_true f) (fun _ _ _ _ _ f => no_true f) (fun _ _ _ _ _ f => no_true f) (fun _ _ _ _ _ _ f => no_true f)
theorem on_assign {s : Stmt} {B : List Expr → Expr → Bool} (h : onAssign s B = true) : ∃ t e p, s = .Assign t e p ∧ B t e = true := runS_elim (h := ⟨hs0.exprS, hs0.ret, B, hs0.ifs, hs0.whl, hs0.fr⟩) h (fun _ _ _ f => no_true f) (fun _ _ _ f => no_true f) (fun t e p eq0 hb0 => ⟨t, e, p, eq0, hb0⟩) (fun _ _ _ _ _ f => no_true f) (fun _ _ _ _ _ f => no_true f) (fun _ _ _ _ _ _ f => no_true f)
theorem on_if {s : Stmt} {B : Expr → List Stmt → List Stmt → Bool} (h : onIf s B = true) : ∃ t a b p, s = .If t a b p ∧ B t a b = true := runS_elim (h := ⟨hs0.exprS, hs0.ret, hs0.asg, B, hs0.whl, hs0.fr⟩) h (fun _ _ _ f => no_true f) (fun _ _ _ f => no_true f) (fun _ _ _ _ f => no_true f) (fun t a b p eq0 hb0 => ⟨t, a, b, p, eq0, hb0⟩) (fun _ _ _ _ _ f => no_true f) (fun _ _ _ _ _ _ f => no_true f)
theorem on_while {s : Stmt} {B : Expr → List Stmt → List Stmt → Bool} (h : onWhile s B = true) : ∃ t a b p, s = .While t a b p ∧ B t a b = true := runS_elim (h := ⟨hs0.exprS, hs0.ret, hs0.asg, hs0.ifs, B, hs0.fr⟩) h (fun _ _ _ f => no_true f) (fun _ _ _ f => no_true f) (fun _ _ _ _ f => no_true f) (fun _ _ _ _ _ f => no_true f) (fun t a b p eq0 hb0 => ⟨t, a, b, p, eq0, hb0⟩) (fun _ _ _ _ _ _ f => no_true f)
theorem on_for {s : Stmt} {B : Expr → Expr → List Stmt → List Stmt → Bool} (h : onFor s B = true) : ∃ t e a b p, s = .For t e a b p ∧ B t e a b = true := runS_elim (h := ⟨hs0.exprS, hs0.ret, hs0.asg, hs0.ifs, hs0.whl, B⟩) h (fun _ _ _ f => no_true f) (fun _ _ _ f => no_true f) (fun _ _ _ _ f => no_true f) (fun _ _ _ _ _ f => no_true f) (fun _ _ _ _ _ f => no_true f) (fun t e a b p eq0 hb0 => ⟨t, e, a, b, p, eq0, hb0⟩)
end Mine

namespace Mine
open PySem PyProof.Rows PySem.Calls

structure Cx where
  B : Bs
  mg : Str → Option Value
  mb : Str → Option Value
  N : Nm
  P : List Def
  gl : List V

abbrev Cx.M (C : Cx) : Model := model C.B.prog C.B.w

structure Room (d : Nat) (A : Around) : Prop where
  hh : A.handled = none
  dep : A.depth + d ≤ recursionLimit
  un : A.units + 3 * d + 100 ≤ cLine

theorem Room.u64 {d : Nat} {A : Around} (R : Room d A) : A.units + 64 < cLine := by have := R.un; omega

noncomputable def bnames : List (Str × Value) := [
  (Str.ofString "len", .builtin "len"), (Str.ofString "sum", .builtin "sum"), (Str.ofString "all", .builtin "all"), (Str.ofString "any", .builtin "any"),
  (Str.ofString "max", .builtin "max"), (Str.ofString "min", .builtin "min"), (Str.ofString "tuple", .type "tuple"), (Str.ofString "list", .type "list"),
  (Str.ofString "int", .type "int"), (Str.ofString "isinstance", .builtin "isinstance"), (Str.ofString "range", .type "range"), (Str.ofString "reversed", .type "reversed"),
  (Str.ofString "bool", .type "bool"), (Str.ofString "str", .type "str")]

structure Cx.Ok (C : Cx) : Prop where
  g : C.B.hb.Ns mainGlobals C.mg
  b : C.B.hb.Ns builtinsNs C.mb
  nolimit : C.B.hb.NoLimit
  bins : ∀ p ∈ bnames, C.mg p.1 = none ∧ C.mb p.1 = some p.2
  glob : ∀ (g : Nat) (v : V), C.gl[g]? = some v → ∃ y cv, C.N.gns[g]? = some y ∧ C.mg y = some cv ∧ ∀ B σ φ h, VR B σ φ h v cv
  fn : ∀ (f : Nat) (y : Str), C.N.fns[f]? = some y → ∃ a o fd, C.mg y = some (.ref a) ∧ C.B.hb.get? a = some o ∧ o.data = .func fd

/-- what a call of a def gives, d calls deep -/
noncomputable def CallSim (C : Cx) (d : Nat) : Prop := ∀ (f : Nat) (y : Str) (a : Addr) (vs : List V) (σ : Sg) (v : V) (σ' : Sg), callF C.gl C.P d f vs σ = .ok v σ' → C.N.fns[f]? = some y → C.mg y = some (.ref a) →
  ∀ (A : Around) (s : Shared) (φ : List Addr) (cvs : List Value) (E : Value → Shared → Prop), Room d A → SR C.B σ φ s.heap → VRs C.B σ φ s.heap vs cvs → wpAny C.M A (call (.ref a) cvs) (Post C.B s σ φ σ' v) E s

noncomputable def PostU (B : Bs) (s : Shared) (σ : Sg) (φ : List Addr) (σ' : Sg) (s' : Shared) : Prop :=
  ∃ φ' h' tk, s' = { s with heap := h', toks := tk } ∧ SR B σ' φ' h' ∧ Stp W0 σ φ s.heap σ' φ' h'
noncomputable def PostL (B : Bs) (s : Shared) (σ : Sg) (φ : List Addr) (σ' : Sg) (vs : List V) (cvs : List Value) (s' : Shared) : Prop :=
  ∃ φ' h' tk, s' = { s with heap := h', toks := tk } ∧ SR B σ' φ' h' ∧ Stp W0 σ φ s.heap σ' φ' h' ∧ VRs B σ' φ' h' vs cvs
noncomputable def PostI (B : Bs) (s : Shared) (σ : Sg) (φ : List Addr) (σ' : Sg) (items : List V) (cv : Value) (s' : Shared) : Prop :=
  ∃ φ' h' tk, s' = { s with heap := h', toks := tk } ∧ SR B σ' φ' h' ∧ Stp W0 σ φ s.heap σ' φ' h' ∧ ItV B s.heap σ' φ' h' items cv
noncomputable def PostO (B : Bs) (s : Shared) (σ : Sg) (φ : List Addr) (σ' : Sg) (i : Option Int) (cv : Value) (s' : Shared) : Prop :=
  ∃ φ' h' tk, s' = { s with heap := h', toks := tk } ∧ SR B σ' φ' h' ∧ Stp W0 σ φ s.heap σ' φ' h' ∧ IsPart cv i

section
variable {M : Model} {B : Bs} {A : Around} {E : Value → Shared → Prop} {s : Shared} {σ σ₁ σ₂ : Sg} {φ φ₁ : List Addr} {h₁ : Heap} {tk : Nat}

theorem post_mono {t : Sem Value} {v : V} {Q : Value → Shared → Prop} (h : wpAny M A t (Post B s σ φ σ₁ v) E s)
    (k : ∀ cv φ₁ h₁ tk, SR B σ₁ φ₁ h₁ → Stp W0 σ φ s.heap σ₁ φ₁ h₁ → VR B σ₁ φ₁ h₁ v cv → Q cv { s with heap := h₁, toks := tk }) : wpAny M A t Q E s :=
  wpAny_mono h (fun cv s' ⟨φ', h', tk, e, R, S, r⟩ => by subst e; exact k cv φ' h' tk R S r) fun _ _ e => e

theorem Post.trans {v : V} {cv : Value} {s' : Shared} (hl : φ.length = σ.length) (S : Stp W0 σ φ s.heap σ₁ φ₁ h₁) (P : Post B { s with heap := h₁, toks := tk } σ₁ φ₁ σ₂ v cv s') : Post B s σ φ σ₂ v cv s' := by
  obtain ⟨φ', h', tk', e, R, S', r⟩ := P
  exact ⟨φ', h', tk', e, R, S.trans S' hl, r⟩
theorem PostU.trans {s' : Shared} (hl : φ.length = σ.length) (S : Stp W0 σ φ s.heap σ₁ φ₁ h₁) (P : PostU B { s with heap := h₁, toks := tk } σ₁ φ₁ σ₂ s') : PostU B s σ φ σ₂ s' := by
  obtain ⟨φ', h', tk', e, R, S'⟩ := P
  exact ⟨φ', h', tk', e, R, S.trans S' hl⟩
theorem PostL.trans {vs : List V} {cvs : List Value} {s' : Shared} (hl : φ.length = σ.length) (S : Stp W0 σ φ s.heap σ₁ φ₁ h₁) (P : PostL B { s with heap := h₁, toks := tk } σ₁ φ₁ σ₂ vs cvs s') : PostL B s σ φ σ₂ vs cvs s' := by
  obtain ⟨φ', h', tk', e, R, S', r⟩ := P
  exact ⟨φ', h', tk', e, R, S.trans S' hl, r⟩

/-- a made value, the heap grown: a step that leaves the live objects -/
theorem grow_post {v : V} {Q : Value → Shared → Prop} (R : SR B σ φ s.heap) (k : ∀ cv s', Post B s σ φ σ v cv s' → Q cv s') : Grow B σ φ s v Q :=
  fun cv h' tk hk r => k cv _ ⟨φ, h', tk, rfl, R.grow hk, Stp.grow hk, r⟩
theorem grow_post0 {v : V} (R : SR B σ φ s.heap) : Grow B σ φ s v (Post B s σ φ σ v) := grow_post R fun _ _ p => p

end

section
variable {C : Cx} {A : Around} {E : Value → Shared → Prop} {s : Shared} {tbl : List (Str × Nat)} {env : Env} {Γ : Fm} {σ : Sg} {φ : List Addr}

theorem SR.ns {B : Bs} {h : Heap} {a : Addr} {m : Str → Option Value} (R : SR B σ φ h) (hn : B.hb.Ns a m) : h.Ns a m := hn.keeps R.based

theorem isGlob_eq {k : Option NameKind} (h : isGlob k = true) : k = some .globalImplicit := by
  cases k with
  | none => cases h
  | some k => cases k <;> first | rfl | cases h
theorem isVar_eq {k : Option NameKind} (h : isVar k = true) : k = some .local ∨ k = some .cell ∨ k = some .free := by
  cases k with
  | none => cases h
  | some k => cases k <;> first | exact .inl rfl | exact .inr (.inl rfl) | exact .inr (.inr rfl) | cases h
theorem isLoc_eq {k : Option NameKind} (h : isLoc k = true) : k = some .local := by
  cases k with
  | none => cases h
  | some k => cases k <;> first | rfl | cases h
theorem isCel_eq {k : Option NameKind} (h : isCel k = true) : k = some .cell := by
  cases k with
  | none => cases h
  | some k => cases k <;> first | rfl | cases h
theorem okId_eq {id : Str} (h : okId id = true) : (id == ("__debug__" : Str)) = false ∧ id ≠ ("__classdict__" : Str) := by
  unfold okId at h
  rw [Bool.and_eq_true, Bool.not_eq_true', Bool.not_eq_true'] at h
  refine ⟨?_, fun e => ?_⟩
  · cases hb : id == ("__debug__" : Str) with
    | false => rfl
    | true => rw [beq_iff_eq.mp hb, eqS_iff.mpr rfl] at h; cases h.1
  · rw [e, eqS_iff.mpr rfl] at h; cases h.2

theorem eval_glob {id : Str} {p : Pos} {cv : Value} {Q : Value → Shared → Prop} (R : SR C.B σ φ s.heap) (F : FR C.B tbl env Γ σ φ s.heap) (ok : C.Ok) (hk : isGlob (lkS env.scope.names id) = true) (hid : okId id = true)
    (hv : C.mg id = some cv) (hq : Q cv s) : wpAny C.M A (eval (.Name id p) env) Q E s := by
  rw [lkS_eq] at hk
  exact Name_function_global F.kind (isGlob_eq hk) (loadGlobal_global (mg := C.mg) (by rw [F.gl]; exact R.ns ok.g) hv hq) (okId_eq hid).1
theorem eval_bin {id : Str} {p : Pos} {cv : Value} {Q : Value → Shared → Prop} (R : SR C.B σ φ s.heap) (F : FR C.B tbl env Γ σ φ s.heap) (ok : C.Ok) (hk : isGlob (lkS env.scope.names id) = true) (hid : okId id = true)
    (hm : (id, cv) ∈ bnames) (hq : Q cv s) : wpAny C.M A (eval (.Name id p) env) Q E s := by
  rw [lkS_eq] at hk
  obtain ⟨h1, h2⟩ := ok.bins _ hm
  exact Name_function_global F.kind (isGlob_eq hk) (loadGlobal_builtin (mg := C.mg) (mb := C.mb) (by rw [F.gl]; exact R.ns ok.g) h1 (by rw [F.bi]; exact R.ns ok.b) h2 hq) (okId_eq hid).1
end
end Mine

namespace Mine
open PySem PyProof.Rows PySem.Calls

section
variable {env : Env}

theorem star_of {e : Expr} (h : notStar e = true) (rest : List Expr) : starEach (e :: rest) env = (false, eval e env) :: starEach rest env := by
  cases e with
  | Starred v p => exact no_true h
  | _ => rfl
theorem sub_of {e : Expr} (h : notSlice e = true) (o i : Value) : subscripted e false o i = operate [o, i] (getItem o i) := by
  cases e with
  | Slice a b c p => exact no_true h
  | _ => rfl
theorem folded_of {e : Expr} (h : setOk e = true) (x : Value) : foldedSetIterable e env x = pure x := by
  cases e with
  | Set a b c => exact no_true h
  | _ => rfl
theorem marks_of {e : Expr} (h : setOk e = true) (op : CmpOp) : behindInMarks op e = false := by
  cases e with
  | Set a b c => exact no_true h
  | _ => rfl
theorem marked_of {e : Expr} (h : setOk e = true) (op : CmpOp) (t : Sem Value) : markedBehindIn op e t = t := markedBehindIn_of_false (marks_of h op)
theorem base_of {o : Expr} (h : baseOk o = true) (name : Str) (t : Sem Value) : attributeBase o name env t = t := by
  cases o with
  | Name a b => rfl
  | Subscript a b c => rfl
  | Constant a b c => rfl
  | _ => exact no_true h
theorem test_of {e : Expr} (h : plainTest e = true) (t : Sem Value) : isTrue e env t = (do let v ← t; standAt e.pos; holding [v] (truthy v)) := by
  cases e with
  | UnaryOp a b c => exact no_true h
  | BoolOp a b c => exact no_true h
  | IfExp a b c d => exact no_true h
  | Compare a b c d => exact no_true h
  | _ => rfl
end
end Mine

namespace Mine
open PySem PyProof.Rows PySem.Calls

section
variable {M : Model} {A : Around} {E : Value → Shared → Prop} {s : Shared}

theorem callWith_plain {pos : Pos} {f : Value} {first : List Value} {args : List (Bool × Sem Value)} {Q : Value → Shared → Prop} (hf : (∃ id, f = .builtin id) ∨ ∃ T, f = .type T) (hs : args.any (·.1) = false)
    (h : wpAny M A (evalArgs f true args []) (fun x s₁ => wpAny M A (call f (first ++ x.pos) x.kw) Q E s₁) E s) : wpAny M A (callWith pos f first args []) Q E s := by
  have tail : ∀ {t : Sem Value} {s₁ : Shared}, wpAny M A t Q E s₁ → wpAny M A (t >>= fun r => holding [r] point >>= fun _ => pure r) Q E s₁ :=
    fun ht => wpAny_bind (wpAny_mono ht (fun r s₂ hr => wpAny_bind (wpAny_holding (wpAny_point (wpAny_pure hr)))) fun _ _ x => x)
  unfold callWith
  refine wpAny_bind (wpAny_holding (wpAny_mono h (fun x s₁ h₁ => wpAny_bind (wpAny_standAt ?_)) fun _ _ x => x))
  rw [hs]
  rcases hf with ⟨id, rfl⟩ | ⟨T, rfl⟩
  · exact wpAny_bind (m := keeperOf (.builtin id)) (wpAny_pure (tail h₁))
  · exact wpAny_bind (m := keeperOf (.type T)) (wpAny_pure (tail h₁))

theorem evalArgs_star {f : Value} {e : Expr} {rest : List Expr} {env : Env} {pos : Pos} {Q : Args → Shared → Prop} (he : starEach (e :: rest) env = (false, eval e env) :: starEach rest env)
    (h : wpAny M A (spliced (backTo pos (starEach (e :: rest) env))) (fun vs s' => Q ⟨vs, []⟩ s') E s) : wpAny M A (evalArgs f true (backTo pos (starEach (e :: rest) env)) []) Q E s := by
  rw [he] at h ⊢
  exact evalArgs_plain h
end

theorem back_any {env : Env} {pos : Pos} {N : Nm} {sc : List (Str × NameKind)} {tbl : List (Str × Nat)} {nl : Nat} : ∀ {n : Nat} {es : List Expr} {xs : List Ex}, chkEs N n sc tbl nl es xs = true → (backTo pos (starEach es env)).any (·.1) = false
  | 0, _, _, h => by simp [chkEs] at h
  | n + 1, [], _, _ => rfl
  | n + 1, e :: es, [], h => by simp [chkEs] at h
  | n + 1, e :: es, x :: xs, h => by
    have h : (notStar e && (chkE N n sc tbl nl e x && chkEs N n sc tbl nl es xs)) = true := h
    rw [star_of (both h).1]
    have := back_any (env := env) (pos := pos) (both (both h).2).2
    simp only [backTo, List.map_cons, List.any_cons, Bool.false_or] at this ⊢
    exact this
theorem chk_star {N : Nm} {sc : List (Str × NameKind)} {tbl : List (Str × Nat)} {nl : Nat} {n : Nat} {e : Expr} {es : List Expr} {xs : List Ex} (h : chkEs N n sc tbl nl (e :: es) xs = true) : notStar e = true := by
  cases n with
  | zero => exact no_true h
  | succ n => cases xs with
    | nil => exact no_true h
    | cons x xs => exact (both (show (notStar e && (chkE N n sc tbl nl e x && chkEs N n sc tbl nl es xs)) = true from h)).1
end Mine

namespace Mine
open PySem PyProof.Rows PySem.Calls

noncomputable def SE (C : Cx) (d n : Nat) : Prop := ∀ (e : Expr) (x : Ex) (env : Env) (tbl : List (Str × Nat)) (Γ : Fm) (σ : Sg) (v : V) (σ' : Sg) (A : Around) (s : Shared) (φ : List Addr) (E : Value → Shared → Prop),
  chkE C.N n env.scope.names tbl Γ.length e x = true → evE C.gl (callF C.gl C.P d) x Γ σ = .ok v σ' → Room d A → SR C.B σ φ s.heap → FR C.B tbl env Γ σ φ s.heap →
  wpAny C.M A (eval e env) (Post C.B s σ φ σ' v) E s
noncomputable def ST (C : Cx) (d n : Nat) : Prop := ∀ (e : Expr) (x : Ex) (env : Env) (tbl : List (Str × Nat)) (Γ : Fm) (σ : Sg) (v : V) (t : Bool) (σ' : Sg) (A : Around) (s : Shared) (φ : List Addr) (E : Value → Shared → Prop),
  tstOk e x = true → chkE C.N n env.scope.names tbl Γ.length e x = true → evE C.gl (callF C.gl C.P d) x Γ σ = .ok v σ' → vTrue σ' v = some t → Room d A → SR C.B σ φ s.heap → FR C.B tbl env Γ σ φ s.heap →
  wpAny C.M A (isTrue e env (eval e env)) (fun b s' => b = t ∧ PostU C.B s σ φ σ' s') E s
noncomputable def SEs (C : Cx) (d n : Nat) : Prop := ∀ (es : List Expr) (xs : List Ex) (env : Env) (tbl : List (Str × Nat)) (Γ : Fm) (σ : Sg) (vs : List V) (σ' : Sg) (A : Around) (s : Shared) (φ : List Addr) (E : Value → Shared → Prop) (pos : Pos),
  chkEs C.N n env.scope.names tbl Γ.length es xs = true → evEs C.gl (callF C.gl C.P d) xs Γ σ = .ok vs σ' → Room d A → SR C.B σ φ s.heap → FR C.B tbl env Γ σ φ s.heap →
  wpAny C.M A (spliced (backTo pos (starEach es env))) (PostL C.B s σ φ σ' vs) E s
noncomputable def SL (C : Cx) (d n : Nat) : Prop := ∀ (op : BoolOp) (w : Expr) (r : List Expr) (x : Ex) (env : Env) (tbl : List (Str × Nat)) (Γ : Fm) (σ : Sg) (v : V) (σ' : Sg) (A : Around) (s : Shared) (φ : List Addr) (E : Value → Shared → Prop) (pos : Pos),
  chkL C.N n env.scope.names tbl Γ.length (isAnd op) w r x = true → evE C.gl (callF C.gl C.P d) x Γ σ = .ok v σ' → Room d A → SR C.B σ φ s.heap → FR C.B tbl env Γ σ φ s.heap →
  wpAny C.M A (boolOp pos op (evalEach (w :: r) env)) (Post C.B s σ φ σ' v) E s ∧
  ∀ t, vTrue σ' v = some t → wpAny C.M A (allTrue op (w :: r) env) (fun b s' => b = t ∧ PostU C.B s σ φ σ' s') E s
noncomputable def SO (C : Cx) (d n : Nat) : Prop := ∀ (e : Option Expr) (x : Option Ex) (env : Env) (tbl : List (Str × Nat)) (Γ : Fm) (σ : Sg) (i : Option Int) (σ' : Sg) (A : Around) (s : Shared) (φ : List Addr) (E : Value → Shared → Prop),
  chkO C.N n env.scope.names tbl Γ.length e x = true → evO C.gl (callF C.gl C.P d) x Γ σ = .ok i σ' → Room d A → SR C.B σ φ s.heap → FR C.B tbl env Γ σ φ s.heap →
  wpAny C.M A (evalPart e env) (PostO C.B s σ φ σ' i) E s
noncomputable def SI (C : Cx) (d n : Nat) : Prop := ∀ (e : Expr) (ik : IK) (x y : Ex) (env : Env) (tbl : List (Str × Nat)) (Γ : Fm) (σ : Sg) (a : V) (σ₁ : Sg) (b : V) (σ₂ : Sg) (items : List V) (A : Around) (s : Shared) (φ : List Addr) (E : Value → Shared → Prop),
  chkI C.N n env.scope.names tbl Γ.length e ik x y = true → evE C.gl (callF C.gl C.P d) x Γ σ = .ok a σ₁ → evE C.gl (callF C.gl C.P d) y Γ σ₁ = .ok b σ₂ → vItems ik a b = some items → Room d A → SR C.B σ φ s.heap → FR C.B tbl env Γ σ φ s.heap →
  wpAny C.M A (eval e env) (PostI C.B s σ φ σ₂ items) E s

section
variable {C : Cx} {d n : Nat} {env : Env} {tbl : List (Str × Nat)} {Γ : Fm} {σ σ' : Sg} {v : V} {A : Around} {s : Shared} {φ : List Addr} {E : Value → Shared → Prop}

theorem sEs_succ (hE : SE C d n) (hEs : SEs C d n) : SEs C d (n + 1) := by
  intro es xs env tbl Γ σ vs σ' A s φ E pos hc he hr R F
  cases es with
  | nil =>
    cases xs with
    | nil => cases he; exact spliced_nil ⟨φ, s.heap, s.toks, rfl, R, .refl, .nil⟩
    | cons x xs => exact no_true hc
  | cons e es =>
    cases xs with
    | nil => exact no_true hc
    | cons x xs =>
      have hc : (notStar e && (chkE C.N n env.scope.names tbl Γ.length e x && chkEs C.N n env.scope.names tbl Γ.length es xs)) = true := hc
      obtain ⟨hst, hc⟩ := both hc
      have hc := both hc
      rw [evEs_cons] at he
      obtain ⟨v, σ₁, h1, he⟩ := bind_eq_ok he
      obtain ⟨ws, σ₂, h2, he⟩ := bind_eq_ok he
      cases he
      rw [star_of hst]
      show wpAny C.M A (spliced ((false, eval e env) :: backTo pos (starEach es env))) _ E s
      refine spliced_cons (post_mono (hE e x env tbl Γ σ v σ₁ A s φ E hc.1 h1 hr R F) fun cv φ₁ h₁ tk R₁ S₁ r₁ => ?_)
      refine wpAny_mono (hEs es xs env tbl Γ σ₁ ws σ' A _ φ₁ E pos hc.2 h2 hr R₁ (F.mono0 R S₁)) (fun cvs s₂ P => ?_) fun _ _ e => e
      obtain ⟨φ₂, h₂, tk₂, rfl, R₂, S₂, r₂⟩ := P
      exact ⟨φ₂, h₂, tk₂, rfl, R₂, S₁.trans S₂ R.len, .cons (r₁.mono R₁ S₂ Apart.none) r₂⟩

theorem sO_succ (hE : SE C d n) : SO C d (n + 1) := by
  intro e x env tbl Γ σ i σ' A s φ E hc he hr R F
  cases x with
  | none =>
    have hc : e.isNone = true := hc
    cases e with
    | some e => exact no_true hc
    | none => cases he; rw [evalPart_none]; exact wpAny_pure ⟨φ, s.heap, s.toks, rfl, R, .refl, .none⟩
  | some x =>
    obtain ⟨e, rfl, hc⟩ := on_o (show onO e (fun e => chkE C.N n env.scope.names tbl Γ.length e x) = true from hc)
    rw [evO_some] at he
    obtain ⟨v, σ₁, h1, he⟩ := bind_eq_ok he
    obtain ⟨j, h2, he⟩ := bind_of_ok he
    cases he
    show wpAny C.M A (eval e env) _ E s
    refine post_mono (hE e x env tbl Γ σ v σ' A s φ E hc h1 hr R F) fun cv φ₁ h₁ tk R₁ S₁ r₁ => ⟨φ₁, h₁, tk, rfl, R₁, S₁, ?_⟩
    cases r₁ with
    | int i t => cases h2; exact .int _ _
    | _ => cases h2

theorem sL_succ (hE : SE C d n) (hT : ST C d n) (hL : SL C d n) : SL C d (n + 1) := by
  intro op w r x env tbl Γ σ v σ' A s φ E pos hc he hr R F
  cases r with
  | nil =>
    obtain ⟨hts, hc⟩ := both (show (tstOk w x && chkE C.N n env.scope.names tbl Γ.length w x) = true from hc)
    refine ⟨hE w x env tbl Γ σ v σ' A s φ E hc he hr R F, fun t ht => ?_⟩
    show wpAny C.M A (isTrue w env (eval w env) >>= _) _ E s
    refine wpAny_bind (wpAny_mono (hT w x env tbl Γ σ v t σ' A s φ E hts hc he ht hr R F) (fun b s' hb => ?_) fun _ _ e => e)
    obtain ⟨rfl, P⟩ := hb
    cases op <;> cases b <;> exact wpAny_pure ⟨rfl, P⟩
  | cons w' r =>
    cases op with
    | And =>
      cases x with
      | and a b =>
        obtain ⟨_, hc⟩ := both (show (true && (tstOk w a && (chkE C.N n env.scope.names tbl Γ.length w a && chkL C.N n env.scope.names tbl Γ.length (isAnd .And) w' r b))) = true from hc)
        obtain ⟨hts, hc⟩ := both hc
        have hc := both hc
        rw [evE_and] at he
        obtain ⟨u, σ₁, h1, he⟩ := bind_eq_ok he
        obtain ⟨t, h2, he⟩ := bind_of_ok he
        constructor
        · show wpAny C.M A (eval w env >>= _) _ E s
          refine wpAny_bind (post_mono (hE w a env tbl Γ σ u σ₁ A s φ E hc.1 h1 hr R F) fun cv φ₁ h₁ tk R₁ S₁ r₁ => ?_)
          refine wpAny_bind (wpAny_standAt (wpAny_bind (wpAny_holding (op_truthy h2 R₁ r₁ fun tk' => ?_))))
          cases t with
          | false => cases he; exact wpAny_pure ⟨φ₁, h₁, tk', rfl, R₁, S₁, r₁⟩
          | true =>
            exact wpAny_mono (hL .And w' r b env tbl Γ σ₁ v σ' A _ φ₁ E pos hc.2 he hr R₁ (F.mono0 R S₁)).1 (fun cv s₂ P => P.trans R.len S₁) fun _ _ e => e
        · intro t' ht'
          show wpAny C.M A (isTrue w env (eval w env) >>= _) _ E s
          refine wpAny_bind (wpAny_mono (hT w a env tbl Γ σ u t σ₁ A s φ E hts hc.1 h1 h2 hr R F) (fun b' s' hb => ?_) fun _ _ e => e)
          obtain ⟨rfl, P⟩ := hb
          cases b' with
          | false => cases he; rw [h2] at ht'; cases ht'; exact wpAny_pure ⟨rfl, P⟩
          | true =>
            obtain ⟨φ₁, h₁, tk, rfl, R₁, S₁⟩ := P
            exact wpAny_mono ((hL .And w' r b env tbl Γ σ₁ v σ' A _ φ₁ E pos hc.2 he hr R₁ (F.mono0 R S₁)).2 t' ht') (fun b s₂ P => ⟨P.1, P.2.trans R.len S₁⟩) fun _ _ e => e
      | _ => exact no_true hc
    | Or =>
      cases x with
      | or a b =>
        obtain ⟨_, hc⟩ := both (show (!false && (tstOk w a && (chkE C.N n env.scope.names tbl Γ.length w a && chkL C.N n env.scope.names tbl Γ.length (isAnd .Or) w' r b))) = true from hc)
        obtain ⟨hts, hc⟩ := both hc
        have hc := both hc
        rw [evE_or] at he
        obtain ⟨u, σ₁, h1, he⟩ := bind_eq_ok he
        obtain ⟨t, h2, he⟩ := bind_of_ok he
        constructor
        · show wpAny C.M A (eval w env >>= _) _ E s
          refine wpAny_bind (post_mono (hE w a env tbl Γ σ u σ₁ A s φ E hc.1 h1 hr R F) fun cv φ₁ h₁ tk R₁ S₁ r₁ => ?_)
          refine wpAny_bind (wpAny_standAt (wpAny_bind (wpAny_holding (op_truthy h2 R₁ r₁ fun tk' => ?_))))
          cases t with
          | true => cases he; exact wpAny_pure ⟨φ₁, h₁, tk', rfl, R₁, S₁, r₁⟩
          | false =>
            exact wpAny_mono (hL .Or w' r b env tbl Γ σ₁ v σ' A _ φ₁ E pos hc.2 he hr R₁ (F.mono0 R S₁)).1 (fun cv s₂ P => P.trans R.len S₁) fun _ _ e => e
        · intro t' ht'
          show wpAny C.M A (isTrue w env (eval w env) >>= _) _ E s
          refine wpAny_bind (wpAny_mono (hT w a env tbl Γ σ u t σ₁ A s φ E hts hc.1 h1 h2 hr R F) (fun b' s' hb => ?_) fun _ _ e => e)
          obtain ⟨rfl, P⟩ := hb
          cases b' with
          | true => cases he; rw [h2] at ht'; cases ht'; exact wpAny_pure ⟨rfl, P⟩
          | false =>
            obtain ⟨φ₁, h₁, tk, rfl, R₁, S₁⟩ := P
            exact wpAny_mono ((hL .Or w' r b env tbl Γ σ₁ v σ' A _ φ₁ E pos hc.2 he hr R₁ (F.mono0 R S₁)).2 t' ht') (fun b s₂ P => ⟨P.1, P.2.trans R.len S₁⟩) fun _ _ e => e
      | _ => exact no_true hc
end
end Mine

namespace Mine
open PySem PyProof.Rows PySem.Calls

section
variable {C : Cx} {d n : Nat}

theorem post_pure {B : Bs} {s : Shared} {σ : Sg} {φ : List Addr} {v : V} {cv : Value} (R : SR B σ φ s.heap) (tk : Nat) (r : VR B σ φ s.heap v cv) : Post B s σ φ σ v cv { s with toks := tk } :=
  ⟨φ, s.heap, tk, rfl, R, .refl, r⟩

theorem SR.sysOk {B : Bs} {s : Shared} {σ : Sg} {φ : List Addr} (R : SR B σ φ s.heap) : (s.heap.objs.size == sysModules) = false := by
  obtain ⟨o, ho⟩ := R.main
  have h : (3 : Nat) < s.heap.objs.size := Heap.lt_size ho
  have hne : ¬ s.heap.objs.size = (1 : Nat) := by omega
  exact beq_eq_false_iff_ne.mpr hne

/-- a new list of related items, live or frozen -/
theorem put_new {m : Bool} {xs : List V} {vs : List Value} {B : Bs} {s : Shared} {σ σ' : Sg} {φ : List Addr} {v : V} (h : putL m xs σ = .ok v σ') (R : SR B σ φ s.heap) (r : VRs B σ φ s.heap xs vs) (tk : Nat) :
    Post B s σ φ σ' v (.ref s.heap.objs.size) { s with heap := s.heap.push { cls := .type "list", data := .seq vs.toArray }, toks := tk } := by
  unfold putL at h
  split at h
  · rename_i hn
    cases m with
    | true =>
      cases h
      have hk := push_keeps s.heap { cls := .type "list", data := .seq vs.toArray }
      refine ⟨φ ++ [s.heap.objs.size], _, tk, rfl, R.allocL (get_size _) hk ⟨_, Heap.get?_push_size _ rfl⟩ r hn R.sysOk, Stp.alloc R.len (get_size _) hk, .ref ?_⟩
      rw [← R.len]; simp
    | false =>
      cases h
      exact ⟨φ, _, tk, rfl, R.grow (push_keeps _ _), Stp.grow (push_keeps _ _), VR.newLst R r hn 0⟩
  · cases h

theorem sE_const {e : Expr} {x : Ex} {env : Env} {tbl : List (Str × Nat)} {Γ : Fm} {σ : Sg} {v : V} {σ' : Sg} {A : Around} {s : Shared} {φ : List Addr} {E : Value → Shared → Prop}
    (hx : x = .cNone ∨ (∃ b, x = .cBool b) ∨ (∃ i, x = .cInt i) ∨ ∃ l, x = .cStr l)
    (hc : chkE C.N (n + 1) env.scope.names tbl Γ.length e x = true) (he : evE C.gl (callF C.gl C.P d) x Γ σ = .ok v σ') (R : SR C.B σ φ s.heap) :
    wpAny C.M A (eval e env) (Post C.B s σ φ σ' v) E s := by
  rcases hx with rfl | ⟨b, rfl⟩ | ⟨i, rfl⟩ | ⟨l, rfl⟩
  · replace hc := on_const (show onConst e isConstN = true from hc)
    obtain ⟨c, k, p, rfl, hc⟩ := hc
    cases c with
    | none => cases he; exact wpAny_pure (post_pure R s.toks .none)
    | _ => exact no_true hc
  · replace hc := on_const (show onConst e (isConstB b) = true from hc)
    obtain ⟨c, k, p, rfl, hc⟩ := hc
    cases c with
    | bool b' => cases he; rw [← beq_iff_eq.mp (show (b == b') = true from hc)]; exact wpAny_pure (post_pure R s.toks (.bool b))
    | _ => exact no_true hc
  · replace hc := on_const (show onConst e (isConstI i) = true from hc)
    obtain ⟨c, k, p, rfl, hc⟩ := hc
    cases c with
    | int i' => cases he; rw [← beq_iff_eq.mp (show (i == i') = true from hc)]; exact wpAny_Constant_int (post_pure R _ (.int i _))
    | _ => exact no_true hc
  · replace hc := on_const (show onConst e (isConstS l) = true from hc)
    obtain ⟨c, k, p, rfl, hc⟩ := hc
    cases c with
    | str s' =>
      cases he
      replace hc := both (show (s'.cps.toList == l && decide (l.length ≤ 1000)) = true from hc)
      obtain ⟨hc1, hc2⟩ := hc
      refine wpAny_mkText ?_
      have e : s' = ⟨l.toArray⟩ := by
        obtain ⟨⟨a⟩⟩ := s'
        have := beq_iff_eq.mp hc1
        simp at this
        rw [this]
      rw [e]
      exact post_pure R _ (.str l _ (by have := of_decide_eq_true hc2; unfold roomy; omega))
    | _ => exact no_true hc

theorem sE_names (ok : C.Ok) {e : Expr} {x : Ex} {env : Env} {tbl : List (Str × Nat)} {Γ : Fm} {σ : Sg} {v : V} {σ' : Sg} {A : Around} {s : Shared} {φ : List Addr} {E : Value → Shared → Prop}
    (hx : (∃ i, x = .var i) ∨ ∃ g, x = .glob g)
    (hc : chkE C.N (n + 1) env.scope.names tbl Γ.length e x = true) (he : evE C.gl (callF C.gl C.P d) x Γ σ = .ok v σ') (R : SR C.B σ φ s.heap) (F : FR C.B tbl env Γ σ φ s.heap) :
    wpAny C.M A (eval e env) (Post C.B s σ φ σ' v) E s := by
  rcases hx with ⟨i, rfl⟩ | ⟨g, rfl⟩
  · replace hc := on_name (show onName e (fun id => lkS tbl id == some i && isVar (lkS env.scope.names id) && okId id) = true from hc)
    obtain ⟨id, p, rfl, hc⟩ := hc
    rw [Bool.and_eq_true, Bool.and_eq_true, beq_iff_eq, lkS_eq, lkS_eq] at hc
    obtain ⟨h1, e1⟩ := of_eq_ok he
    subst e1
    obtain ⟨k1, k2⟩ := okId_eq hc.2
    exact wpAny_Name (load_var F hc.1.1 h1 (isVar_eq hc.1.2) k2 fun cv r => post_pure R s.toks r) k1
  · replace hc := on_name (show onName e (fun id => nameAt C.N.gns g id && globOk env.scope.names id) = true from hc)
    obtain ⟨id, p, rfl, hc⟩ := hc
    replace hc := both hc
    obtain ⟨hc1, hc2⟩ := hc
    obtain ⟨hc2, hc3⟩ := both hc2
    obtain ⟨h1, e1⟩ := of_eq_ok he
    subst e1
    obtain ⟨y, cv, k1, k2, k3⟩ := ok.glob g v h1
    rw [nameAt_eq hc1] at k1
    cases k1
    exact eval_glob R F ok hc2 hc3 k2 (post_pure R s.toks (k3 _ _ _ _))

theorem sE_bools (hE : SE C d n) (hT : ST C d n) (hL : SL C d n) {e : Expr} {x : Ex} {env : Env} {tbl : List (Str × Nat)} {Γ : Fm} {σ : Sg} {v : V} {σ' : Sg} {A : Around} {s : Shared} {φ : List Addr} {E : Value → Shared → Prop}
    (hx : (∃ a b, x = .and a b) ∨ ∃ a b, x = .or a b)
    (hc : chkE C.N (n + 1) env.scope.names tbl Γ.length e x = true) (he : evE C.gl (callF C.gl C.P d) x Γ σ = .ok v σ') (hr : Room d A) (R : SR C.B σ φ s.heap) (F : FR C.B tbl env Γ σ φ s.heap) :
    wpAny C.M A (eval e env) (Post C.B s σ φ σ' v) E s ∧ ∀ t, vTrue σ' v = some t → wpAny C.M A (isTrue e env (eval e env)) (fun b s' => b = t ∧ PostU C.B s σ φ σ' s') E s := by
  rcases hx with ⟨a, b, rfl⟩ | ⟨a, b, rfl⟩
  · replace hc := on_boolOp (show onBoolOp e (fun o l => isAnd o && onTwo l fun v w r => tstOk v a && (chkE C.N n env.scope.names tbl Γ.length v a && chkL C.N n env.scope.names tbl Γ.length true w r b)) = true from hc)
    obtain ⟨o, l, p, rfl, hc⟩ := hc
    replace hc := both hc
    obtain ⟨h1, hc⟩ := hc
    replace hc := on_two hc
    obtain ⟨u, w, r, rfl, hc⟩ := hc
    cases o with
    | Or => exact no_true h1
    | And => exact sL_succ hE hT hL .And u (w :: r) (.and a b) env tbl Γ σ v σ' A s φ E p hc he hr R F
  · replace hc := on_boolOp (show onBoolOp e (fun o l => !isAnd o && onTwo l fun v w r => tstOk v a && (chkE C.N n env.scope.names tbl Γ.length v a && chkL C.N n env.scope.names tbl Γ.length false w r b)) = true from hc)
    obtain ⟨o, l, p, rfl, hc⟩ := hc
    replace hc := both hc
    obtain ⟨h1, hc⟩ := hc
    replace hc := on_two hc
    obtain ⟨u, w, r, rfl, hc⟩ := hc
    cases o with
    | And => exact no_true h1
    | Or => exact sL_succ hE hT hL .Or u (w :: r) (.or a b) env tbl Γ σ v σ' A s φ E p hc he hr R F

theorem sE_not (hE : SE C d n) (hT : ST C d n) {e : Expr} {a : Ex} {env : Env} {tbl : List (Str × Nat)} {Γ : Fm} {σ : Sg} {v : V} {σ' : Sg} {A : Around} {s : Shared} {φ : List Addr} {E : Value → Shared → Prop}
    (hc : chkE C.N (n + 1) env.scope.names tbl Γ.length e (.not a) = true) (he : evE C.gl (callF C.gl C.P d) (.not a) Γ σ = .ok v σ') (hr : Room d A) (R : SR C.B σ φ s.heap) (F : FR C.B tbl env Γ σ φ s.heap) :
    wpAny C.M A (eval e env) (Post C.B s σ φ σ' v) E s ∧ ∀ t, vTrue σ' v = some t → wpAny C.M A (isTrue e env (eval e env)) (fun b s' => b = t ∧ PostU C.B s σ φ σ' s') E s := by
  replace hc := on_unary (show onUnary e (fun o x => isNot o && (tstOk x a && chkE C.N n env.scope.names tbl Γ.length x a)) = true from hc)
  obtain ⟨o, e, p, rfl, hc⟩ := hc
  replace hc := both hc
  obtain ⟨h0, hc⟩ := hc
  replace hc := both hc
  obtain ⟨hts, hc⟩ := hc
  cases o with
  | Not =>
    rw [evE_not] at he
    obtain ⟨u, σ₁, h1, he⟩ := bind_eq_ok he
    obtain ⟨t, h2, he⟩ := bind_of_ok he
    cases he
    constructor
    · show wpAny C.M A (eval e env >>= _) _ E s
      refine wpAny_bind (post_mono (hE e a env tbl Γ σ u _ A s φ E hc h1 hr R F) fun cv φ₁ h₁ tk R₁ S₁ r₁ => ?_)
      refine wpAny_bind (wpAny_standAt (wpAny_holding (not_value (op_truthy h2 R₁ r₁ fun tk' => ?_))))
      exact ⟨φ₁, h₁, tk', rfl, R₁, S₁, .bool _⟩
    · intro t' ht'
      cases ht'
      refine PyProof.Rows.isTrue_not (wpAny_mono (hT e a env tbl Γ σ u t _ A s φ E hts hc h1 h2 hr R F) (fun b s' hb => ?_) fun _ _ e => e)
      exact ⟨by rw [hb.1], hb.2⟩
  | _ => exact no_true h0

theorem sE_neg (hE : SE C d n) {e : Expr} {a : Ex} {env : Env} {tbl : List (Str × Nat)} {Γ : Fm} {σ : Sg} {v : V} {σ' : Sg} {A : Around} {s : Shared} {φ : List Addr} {E : Value → Shared → Prop}
    (hc : chkE C.N (n + 1) env.scope.names tbl Γ.length e (.neg a) = true) (he : evE C.gl (callF C.gl C.P d) (.neg a) Γ σ = .ok v σ') (hr : Room d A) (R : SR C.B σ φ s.heap) (F : FR C.B tbl env Γ σ φ s.heap) :
    wpAny C.M A (eval e env) (Post C.B s σ φ σ' v) E s ∧ ∃ x p, e = .UnaryOp .USub x p := by
  replace hc := on_unary (show onUnary e (fun o x => isUSub o && chkE C.N n env.scope.names tbl Γ.length x a) = true from hc)
  obtain ⟨o, e, p, rfl, hc⟩ := hc
  replace hc := both hc
  obtain ⟨h0, hc⟩ := hc
  cases o with
  | USub =>
    rw [evE_neg] at he
    obtain ⟨u, σ₁, h1, he⟩ := bind_eq_ok he
    obtain ⟨h2, e2⟩ := of_eq_ok he
    subst e2
    refine ⟨?_, _, _, rfl⟩
    show wpAny C.M A (eval e env >>= _) _ E s
    refine wpAny_bind (post_mono (hE e a env tbl Γ σ u _ A s φ E hc h1 hr R F) fun cv φ₁ h₁ tk R₁ S₁ r₁ => ?_)
    refine wpAny_bind (wpAny_standAt (wpAny_holding ?_))
    cases r₁ with
    | int i t => cases h2; exact P.neg_int ⟨φ₁, h₁, _, rfl, R₁, S₁, .int _ _⟩
    | _ => cases h2
  | _ => exact no_true h0

theorem sE_bin (hE : SE C d n) {e : Expr} {o : Bop} {a b : Ex} {env : Env} {tbl : List (Str × Nat)} {Γ : Fm} {σ : Sg} {v : V} {σ' : Sg} {A : Around} {s : Shared} {φ : List Addr} {E : Value → Shared → Prop}
    (hc : chkE C.N (n + 1) env.scope.names tbl Γ.length e (.bin o a b) = true) (he : evE C.gl (callF C.gl C.P d) (.bin o a b) Γ σ = .ok v σ') (hr : Room d A) (R : SR C.B σ φ s.heap) (F : FR C.B tbl env Γ σ φ s.heap) :
    wpAny C.M A (eval e env) (Post C.B s σ φ σ' v) E s := by
  replace hc := on_bin (show onBin e (fun l op r => opIs o op && (chkE C.N n env.scope.names tbl Γ.length l a && chkE C.N n env.scope.names tbl Γ.length r b)) = true from hc)
  obtain ⟨l, op, r, p, rfl, hc⟩ := hc
  replace hc := both hc
  obtain ⟨h0, hc⟩ := hc
  have hc := both hc
  have := opIs_eq h0
  subst this
  · rw [evE_bin] at he
    obtain ⟨u, σ₁, h1, he⟩ := bind_eq_ok he
    obtain ⟨w, σ₂, h2, he⟩ := bind_eq_ok he
    obtain ⟨h3, e3⟩ := of_eq_ok he
    subst e3
    refine wpAny_BinOp (post_mono (hE l a env tbl Γ σ u σ₁ A s φ E hc.1 h1 hr R F) fun cv φ₁ h₁ tk R₁ S₁ r₁ => ?_)
    refine post_mono (hE r b env tbl Γ σ₁ w σ₂ A _ φ₁ E hc.2 h2 hr R₁ (F.mono0 R S₁)) fun cw φ₂ h₂ tk₂ R₂ S₂ r₂ => ?_
    exact op_bin h3 R₂ (r₁.mono R₁ S₂ Apart.none) r₂ (grow_post R₂ fun cv s' P => P.trans R.len (S₁.trans S₂ R.len))

theorem sE_cmp (hE : SE C d n) {e : Expr} {o : Cop} {a b : Ex} {env : Env} {tbl : List (Str × Nat)} {Γ : Fm} {σ : Sg} {v : V} {σ' : Sg} {A : Around} {s : Shared} {φ : List Addr} {E : Value → Shared → Prop}
    (hc : chkE C.N (n + 1) env.scope.names tbl Γ.length e (.cmp o a b) = true) (he : evE C.gl (callF C.gl C.P d) (.cmp o a b) Γ σ = .ok v σ') (hr : Room d A) (R : SR C.B σ φ s.heap) (F : FR C.B tbl env Γ σ φ s.heap) :
    wpAny C.M A (eval e env) (Post C.B s σ φ σ' v) E s ∧ ∀ t, vTrue σ' v = some t → wpAny C.M A (isTrue e env (eval e env)) (fun b s' => b = t ∧ PostU C.B s σ φ σ' s') E s := by
  replace hc := on_compare (show onCompare e (fun l ops rs => on1 ops fun op => on1 rs fun r => copIs o op && (setOk r && (chkE C.N n env.scope.names tbl Γ.length l a && chkE C.N n env.scope.names tbl Γ.length r b))) = true from hc)
  obtain ⟨l, ops, rs, p, rfl, hc⟩ := hc
  replace hc := on_1 hc
  obtain ⟨op, rfl, hc⟩ := hc
  replace hc := on_1 hc
  obtain ⟨r, rfl, hc⟩ := hc
  replace hc := both hc
  obtain ⟨h0, hc⟩ := hc
  replace hc := both hc
  obtain ⟨hs, hc⟩ := hc
  have hc := both hc
  have := copIs_eq h0
  subst this
  · rw [evE_cmp] at he
    obtain ⟨u, σ₁, h1, he⟩ := bind_eq_ok he
    obtain ⟨w, σ₂, h2, he⟩ := bind_eq_ok he
    obtain ⟨t, h3, he⟩ := bind_of_ok he
    cases he
    constructor
    · refine wpAny_Compare1 (post_mono (hE l a env tbl Γ σ u σ₁ A s φ E hc.1 h1 hr R F) fun cv φ₁ h₁ tk R₁ S₁ r₁ => ?_) (marks_of hs _)
      refine post_mono (hE r b env tbl Γ σ₁ w _ A _ φ₁ E hc.2 h2 hr R₁ (F.mono0 R S₁)) fun cw φ₂ h₂ tk₂ R₂ S₂ r₂ => ?_
      exact op_cmp h3 ⟨rfl, rfl⟩ R₂ (r₁.mono R₁ S₂ Apart.none) r₂ hr.u64 fun tk => ⟨φ₂, h₂, tk, rfl, R₂, S₁.trans S₂ R.len, .bool _⟩
    · intro t' ht'
      cases ht'
      refine wpAny_isTrue_Compare1 (post_mono (hE l a env tbl Γ σ u σ₁ A s φ E hc.1 h1 hr R F) fun cv φ₁ h₁ tk R₁ S₁ r₁ => ?_) (marks_of hs _)
      refine post_mono (hE r b env tbl Γ σ₁ w _ A _ φ₁ E hc.2 h2 hr R₁ (F.mono0 R S₁)) fun cw φ₂ h₂ tk₂ R₂ S₂ r₂ => ?_
      exact op_cmp h3 ⟨rfl, rfl⟩ R₂ (r₁.mono R₁ S₂ Apart.none) r₂ hr.u64 fun tk => wpAny_truthy_bool ⟨rfl, φ₂, h₂, tk, rfl, R₂, S₁.trans S₂ R.len⟩
end
end Mine

namespace Mine
open PySem PyProof.Rows PySem.Calls

section
variable {C : Cx} {d n : Nat}

theorem rel_any {M : Model} {A : Around} {E : Value → Shared → Prop} {s : Shared} {vs ks : List Value} {Q : Unit → Shared → Prop} (h : Q () s) : wpAny M A (release vs ks) Q E s :=
  fun Γ p hΓ => by rw [Sem.wp_release]; exact h

theorem sE_cmp2 (hE : SE C d n) {e : Expr} {o1 o2 : Cop} {a b c : Ex} {env : Env} {tbl : List (Str × Nat)} {Γ : Fm} {σ : Sg} {v : V} {σ' : Sg} {A : Around} {s : Shared} {φ : List Addr} {E : Value → Shared → Prop}
    (hc : chkE C.N (n + 1) env.scope.names tbl Γ.length e (.cmp2 o1 o2 a b c) = true) (he : evE C.gl (callF C.gl C.P d) (.cmp2 o1 o2 a b c) Γ σ = .ok v σ') (hr : Room d A) (R : SR C.B σ φ s.heap) (F : FR C.B tbl env Γ σ φ s.heap) :
    wpAny C.M A (eval e env) (Post C.B s σ φ σ' v) E s ∧ ∀ t, vTrue σ' v = some t → wpAny C.M A (isTrue e env (eval e env)) (fun b s' => b = t ∧ PostU C.B s σ φ σ' s') E s := by
  replace hc := on_compare (show onCompare e (fun l ops rs => on2 ops fun p1 p2 => on2 rs fun m r => copIs o1 p1 && (copIs o2 p2 && (setOk m && (setOk r && (chkE C.N n env.scope.names tbl Γ.length l a && (chkE C.N n env.scope.names tbl Γ.length m b && chkE C.N n env.scope.names tbl Γ.length r c)))))) = true from hc)
  obtain ⟨l, ops, rs, p, rfl, hc⟩ := hc
  replace hc := on_2 hc
  obtain ⟨p1, p2, rfl, hc⟩ := hc
  replace hc := on_2 hc
  obtain ⟨m, r, rfl, hc⟩ := hc
  replace hc := both hc
  obtain ⟨q1, hc⟩ := hc
  replace hc := both hc
  obtain ⟨q2, hc⟩ := hc
  replace hc := both hc
  obtain ⟨q3, hc⟩ := hc
  replace hc := both hc
  obtain ⟨q4, hc⟩ := hc
  replace hc := both hc
  obtain ⟨q5, hc⟩ := hc
  replace hc := both hc
  obtain ⟨q6, q7⟩ := hc
  · skip
    have := copIs_eq q1
    subst this
    have := copIs_eq q2
    subst this
    rw [evE_cmp2] at he
    obtain ⟨x, σ₁, h1, he⟩ := bind_eq_ok he
    obtain ⟨y, σ₂, h2, he⟩ := bind_eq_ok he
    obtain ⟨t, h3, he⟩ := bind_of_ok he
    constructor
    · show wpAny C.M A (eval l env >>= _) _ E s
      refine wpAny_bind (post_mono (hE l a env tbl Γ σ x σ₁ A s φ E q5 h1 hr R F) fun cv φ₁ h₁ tk R₁ S₁ r₁ => ?_)
      show wpAny C.M A (holding [cv] (eval m env) >>= _) _ E _
      refine wpAny_bind (wpAny_holding (post_mono (hE m b env tbl Γ σ₁ y σ₂ A _ φ₁ E q6 h2 hr R₁ (F.mono0 R S₁)) fun cw φ₂ h₂ tk₂ R₂ S₂ r₂ => ?_))
      have S12 := S₁.trans S₂ R.len
      refine wpAny_bind (wpAny_standAt (wpAny_bind (wpAny_holding (op_cmp h3 ⟨rfl, rfl⟩ R₂ (r₁.mono R₁ S₂ Apart.none) r₂ hr.u64 fun tk' => ?_))))
      refine wpAny_bind (rel_any (wpAny_bind (wpAny_holding (wpAny_truthy_bool ?_))))
      cases t with
      | false => cases he; exact wpAny_pure ⟨φ₂, h₂, tk', rfl, R₂, S12, .bool _⟩
      | true =>
        obtain ⟨z, σ₃, h4, he⟩ := bind_eq_ok he
        obtain ⟨u, h5, he⟩ := bind_of_ok he
        cases he
        show wpAny C.M A (holding [cw] (markedBehindIn (cop o2) r (eval r env)) >>= _) _ E _
        rw [marked_of q4]
        refine wpAny_bind (wpAny_holding (post_mono (hE r c env tbl Γ σ₂ z _ A _ φ₂ E q7 h4 hr R₂ (F.mono0 R S12)) fun cz φ₃ h₃ tk₃ R₃ S₃ r₃ => ?_))
        refine wpAny_bind (wpAny_standAt (wpAny_operating (op_cmp h5 ⟨rfl, rfl⟩ R₃ (r₂.mono R₂ S₃ Apart.none) r₃ hr.u64 fun tk' => ?_)))
        exact ⟨φ₃, h₃, tk', rfl, R₃, S12.trans S₃ R.len, .bool _⟩
    · intro t' ht'
      show wpAny C.M A (eval l env >>= _) _ E s
      refine wpAny_bind (post_mono (hE l a env tbl Γ σ x σ₁ A s φ E q5 h1 hr R F) fun cv φ₁ h₁ tk R₁ S₁ r₁ => ?_)
      show wpAny C.M A (holding [cv] (eval m env) >>= _) _ E _
      refine wpAny_bind (wpAny_holding (post_mono (hE m b env tbl Γ σ₁ y σ₂ A _ φ₁ E q6 h2 hr R₁ (F.mono0 R S₁)) fun cw φ₂ h₂ tk₂ R₂ S₂ r₂ => ?_))
      have S12 := S₁.trans S₂ R.len
      refine wpAny_bind (wpAny_standAt (wpAny_bind (wpAny_holding (op_cmp h3 ⟨rfl, rfl⟩ R₂ (r₁.mono R₁ S₂ Apart.none) r₂ hr.u64 fun tk' => ?_))))
      refine wpAny_bind (rel_any (wpAny_bind (wpAny_holding (wpAny_truthy_bool ?_))))
      cases t with
      | false => cases he; cases ht'; exact wpAny_pure ⟨rfl, φ₂, h₂, tk', rfl, R₂, S12⟩
      | true =>
        obtain ⟨z, σ₃, h4, he⟩ := bind_eq_ok he
        obtain ⟨u, h5, he⟩ := bind_of_ok he
        cases he
        cases ht'
        show wpAny C.M A (holding [cw] (markedBehindIn (cop o2) r (eval r env)) >>= _) _ E _
        rw [marked_of q4]
        refine wpAny_bind (wpAny_holding (post_mono (hE r c env tbl Γ σ₂ z _ A _ φ₂ E q7 h4 hr R₂ (F.mono0 R S12)) fun cz φ₃ h₃ tk₃ R₃ S₃ r₃ => ?_))
        refine wpAny_bind (wpAny_standAt (wpAny_bind (wpAny_operating (op_cmp h5 ⟨rfl, rfl⟩ R₃ (r₂.mono R₂ S₃ Apart.none) r₃ hr.u64 fun tk' => ?_))))
        exact wpAny_holding (wpAny_truthy_bool ⟨rfl, φ₃, h₃, tk', rfl, R₃, S12.trans S₃ R.len⟩)

theorem sE_ite (hE : SE C d n) (hT : ST C d n) {e : Expr} {c a b : Ex} {env : Env} {tbl : List (Str × Nat)} {Γ : Fm} {σ : Sg} {v : V} {σ' : Sg} {A : Around} {s : Shared} {φ : List Addr} {E : Value → Shared → Prop}
    (hc : chkE C.N (n + 1) env.scope.names tbl Γ.length e (.ite c a b) = true) (he : evE C.gl (callF C.gl C.P d) (.ite c a b) Γ σ = .ok v σ') (hr : Room d A) (R : SR C.B σ φ s.heap) (F : FR C.B tbl env Γ σ φ s.heap) :
    wpAny C.M A (eval e env) (Post C.B s σ φ σ' v) E s ∧ ∀ t, vTrue σ' v = some t → wpAny C.M A (isTrue e env (eval e env)) (fun b s' => b = t ∧ PostU C.B s σ φ σ' s') E s := by
  replace hc := on_ifExp (show onIfExp e (fun t u v => tstOk t c && (tstOk u a && (tstOk v b && (chkE C.N n env.scope.names tbl Γ.length t c && (chkE C.N n env.scope.names tbl Γ.length u a && chkE C.N n env.scope.names tbl Γ.length v b))))) = true from hc)
  obtain ⟨te, u, w, p, rfl, hc⟩ := hc
  replace hc := both hc
  obtain ⟨t1, hc⟩ := hc
  replace hc := both hc
  obtain ⟨t2, hc⟩ := hc
  replace hc := both hc
  obtain ⟨t3, hc⟩ := hc
  replace hc := both hc
  obtain ⟨q1, hc⟩ := hc
  replace hc := both hc
  obtain ⟨q2, q3⟩ := hc
  · rw [evE_ite] at he
    obtain ⟨x, σ₁, h1, he⟩ := bind_eq_ok he
    obtain ⟨t, h2, he⟩ := bind_of_ok he
    constructor
    · refine wpAny_IfExp (wpAny_mono (hT te c env tbl Γ σ x t σ₁ A s φ E t1 q1 h1 h2 hr R F) (fun b' s' hb => ?_) fun _ _ e => e)
      obtain ⟨rfl, φ₁, h₁, tk, rfl, R₁, S₁⟩ := hb
      cases b' with
      | true => exact wpAny_mono (hE u a env tbl Γ σ₁ v σ' A _ φ₁ E q2 he hr R₁ (F.mono0 R S₁)) (fun cv s₂ P => P.trans R.len S₁) fun _ _ e => e
      | false => exact wpAny_mono (hE w b env tbl Γ σ₁ v σ' A _ φ₁ E q3 he hr R₁ (F.mono0 R S₁)) (fun cv s₂ P => P.trans R.len S₁) fun _ _ e => e
    · intro t' ht'
      refine PyProof.Rows.isTrue_IfExp (wpAny_mono (hT te c env tbl Γ σ x t σ₁ A s φ E t1 q1 h1 h2 hr R F) (fun b' s' hb => ?_) fun _ _ e => e)
      obtain ⟨rfl, φ₁, h₁, tk, rfl, R₁, S₁⟩ := hb
      cases b' with
      | true => exact wpAny_mono (hT u a env tbl Γ σ₁ v t' σ' A _ φ₁ E t2 q2 he ht' hr R₁ (F.mono0 R S₁)) (fun b s₂ P => ⟨P.1, P.2.trans R.len S₁⟩) fun _ _ e => e
      | false => exact wpAny_mono (hT w b env tbl Γ σ₁ v t' σ' A _ φ₁ E t3 q3 he ht' hr R₁ (F.mono0 R S₁)) (fun b s₂ P => ⟨P.1, P.2.trans R.len S₁⟩) fun _ _ e => e

theorem sE_tup (hEs : SEs C d n) {e : Expr} {xs : List Ex} {env : Env} {tbl : List (Str × Nat)} {Γ : Fm} {σ : Sg} {v : V} {σ' : Sg} {A : Around} {s : Shared} {φ : List Addr} {E : Value → Shared → Prop}
    (hc : chkE C.N (n + 1) env.scope.names tbl Γ.length e (.tup xs) = true) (he : evE C.gl (callF C.gl C.P d) (.tup xs) Γ σ = .ok v σ') (hr : Room d A) (R : SR C.B σ φ s.heap) (F : FR C.B tbl env Γ σ φ s.heap) :
    wpAny C.M A (eval e env) (Post C.B s σ φ σ' v) E s := by
  replace hc := on_tuple (show onTuple e (fun es => chkEs C.N n env.scope.names tbl Γ.length es xs) = true from hc)
  obtain ⟨es, k, p, rfl, hc⟩ := hc
  · rw [evE_tup] at he
    obtain ⟨vs, σ₁, h1, he⟩ := bind_eq_ok he
    split at he
    · rename_i hn
      cases he
      refine Tuple_ (wpAny_mono (hEs es xs env tbl Γ σ vs _ A s φ E p hc h1 hr R F) (fun cvs s₁ P => ?_) fun _ _ e => e)
      obtain ⟨φ₁, h₁, tk, rfl, R₁, S₁, r₁⟩ := P
      refine wpAny_newObj_type ?_ (by show cvs.toArray.size ≤ sizeLine; rw [List.size_toArray, r₁.length, ← roomy_eq]; exact hn)
      exact ⟨φ₁, _, tk, rfl, R₁.grow (push_keeps _ _), S₁.trans (Stp.grow (push_keeps _ _)) R.len, VR.newTup (s := { s with heap := h₁, toks := tk }) R₁ r₁ hn 0⟩
    · cases he

theorem sE_lst (hEs : SEs C d n) {e : Expr} {m : Bool} {xs : List Ex} {env : Env} {tbl : List (Str × Nat)} {Γ : Fm} {σ : Sg} {v : V} {σ' : Sg} {A : Around} {s : Shared} {φ : List Addr} {E : Value → Shared → Prop}
    (hc : chkE C.N (n + 1) env.scope.names tbl Γ.length e (.lst m xs) = true) (he : evE C.gl (callF C.gl C.P d) (.lst m xs) Γ σ = .ok v σ') (hr : Room d A) (R : SR C.B σ φ s.heap) (F : FR C.B tbl env Γ σ φ s.heap) :
    wpAny C.M A (eval e env) (Post C.B s σ φ σ' v) E s := by
  replace hc := on_list (show onList e (fun es => chkEs C.N n env.scope.names tbl Γ.length es xs) = true from hc)
  obtain ⟨es, p, rfl, hc⟩ := hc
  · rw [evE_lst] at he
    obtain ⟨vs, σ₁, h1, he⟩ := bind_eq_ok he
    have hn : vs.length ≤ roomy := putL_len he
    refine List_ (wpAny_mono (hEs es xs env tbl Γ σ vs _ A s φ E p hc h1 hr R F) (fun cvs s₁ P => ?_) fun _ _ e => e)
    obtain ⟨φ₁, h₁, tk, rfl, R₁, S₁, r₁⟩ := P
    refine wpAny_newObj_type ?_ (by show cvs.toArray.size ≤ sizeLine; rw [List.size_toArray, r₁.length, ← roomy_eq]; exact hn)
    exact (put_new (s := { s with heap := h₁, toks := tk }) he R₁ r₁ tk).trans R.len S₁

theorem sE_idx (hE : SE C d n) {e : Expr} {a b : Ex} {env : Env} {tbl : List (Str × Nat)} {Γ : Fm} {σ : Sg} {v : V} {σ' : Sg} {A : Around} {s : Shared} {φ : List Addr} {E : Value → Shared → Prop}
    (hc : chkE C.N (n + 1) env.scope.names tbl Γ.length e (.idx a b) = true) (he : evE C.gl (callF C.gl C.P d) (.idx a b) Γ σ = .ok v σ') (hr : Room d A) (R : SR C.B σ φ s.heap) (F : FR C.B tbl env Γ σ φ s.heap) :
    wpAny C.M A (eval e env) (Post C.B s σ φ σ' v) E s := by
  replace hc := on_sub (show onSub e (fun v j => notSlice j && (chkE C.N n env.scope.names tbl Γ.length v a && chkE C.N n env.scope.names tbl Γ.length j b)) = true from hc)
  obtain ⟨l, r, p, rfl, hc⟩ := hc
  replace hc := both hc
  obtain ⟨q0, hc⟩ := hc
  have hc := both hc
  · rw [evE_idx] at he
    obtain ⟨u, σ₁, h1, he⟩ := bind_eq_ok he
    obtain ⟨w, σ₂, h2, he⟩ := bind_eq_ok he
    obtain ⟨h3, e3⟩ := of_eq_ok he
    subst e3
    refine Subscript_ (post_mono (hE l a env tbl Γ σ u σ₁ A s φ E hc.1 h1 hr R F) fun cv φ₁ h₁ tk R₁ S₁ r₁ => ?_)
    refine post_mono (hE r b env tbl Γ σ₁ w σ₂ A _ φ₁ E hc.2 h2 hr R₁ (F.mono0 R S₁)) fun cw φ₂ h₂ tk₂ R₂ S₂ r₂ => ?_
    cases r₂ with
    | int i t =>
      obtain ⟨⟨T, id, hT, hl⟩, hg⟩ := op_item (prog := C.B.prog) (w := C.B.w) (A := A) (E := E) (s := { s with heap := h₂, toks := tk₂ }) (t := t) h3 R₂ (r₁.mono R₁ S₂ Apart.none) (grow_post R₂ fun cv s' P => P.trans R.len (S₁.trans S₂ R.len))
      exact tail_any hT hl hg (sub_of q0 _ _)
    | _ => cases h3

theorem sE_slice (hE : SE C d n) (hO : SO C d n) {e : Expr} {a : Ex} {lo hi : Option Ex} {env : Env} {tbl : List (Str × Nat)} {Γ : Fm} {σ : Sg} {v : V} {σ' : Sg} {A : Around} {s : Shared} {φ : List Addr} {E : Value → Shared → Prop}
    (hc : chkE C.N (n + 1) env.scope.names tbl Γ.length e (.slice a lo hi) = true) (he : evE C.gl (callF C.gl C.P d) (.slice a lo hi) Γ σ = .ok v σ') (hr : Room d A) (R : SR C.B σ φ s.heap) (F : FR C.B tbl env Γ σ φ s.heap) :
    wpAny C.M A (eval e env) (Post C.B s σ φ σ' v) E s := by
  replace hc := on_sub (show onSub e (fun v i => onSlice i fun lo' hi' st => st.isNone && (chkE C.N n env.scope.names tbl Γ.length v a && (chkO C.N n env.scope.names tbl Γ.length lo' lo && chkO C.N n env.scope.names tbl Γ.length hi' hi))) = true from hc)
  obtain ⟨l, sl, p, rfl, hc⟩ := hc
  replace hc := on_slice hc
  obtain ⟨lo', hi', st, p', rfl, hc⟩ := hc
  replace hc := both hc
  obtain ⟨q0, hc⟩ := hc
  cases st with
  | some _ => exact no_true q0
  | none =>
    replace hc := both hc
    obtain ⟨q1, hc⟩ := hc
    have hc := both hc
    rw [evE_slice] at he
    obtain ⟨u, σ₁, h1, he⟩ := bind_eq_ok he
    obtain ⟨i, σ₂, h2, he⟩ := bind_eq_ok he
    obtain ⟨j, σ₃, h3, he⟩ := bind_eq_ok he
    obtain ⟨h4, e4⟩ := of_eq_ok he
    subst e4
    refine Subscript_ (post_mono (hE l a env tbl Γ σ u σ₁ A s φ E q1 h1 hr R F) fun cv φ₁ h₁ tk R₁ S₁ r₁ => ?_)
    refine wpAny_Slice (wpAny_mono (hO lo' lo env tbl Γ σ₁ i σ₂ A _ φ₁ E hc.1 h2 hr R₁ (F.mono0 R S₁)) (fun ci s₂ P => ?_) fun _ _ e => e)
    obtain ⟨φ₂, h₂, tk₂, rfl, R₂, S₂, pi⟩ := P
    have S12 := S₁.trans S₂ R.len
    refine wpAny_mono (hO hi' hi env tbl Γ σ₂ j σ₃ A _ φ₂ E hc.2 h3 hr R₂ (F.mono0 R S12)) (fun cj s₃ P => ?_) fun _ _ e => e
    obtain ⟨φ₃, h₃, tk₃, rfl, R₃, S₃, pj⟩ := P
    have S13 := S12.trans S₃ R.len
    rw [evalPart_none]
    refine wpAny_pure ?_
    have hk := push_keeps h₃ { cls := .type "slice", data := .fields #[ci, cj, .none] }
    have R₄ : SR C.B σ₃ φ₃ (h₃.push { cls := .type "slice", data := .fields #[ci, cj, .none] }) := R₃.grow hk
    have S14 := S13.trans (Stp.grow hk) R.len
    obtain ⟨⟨T, id, hT, hl⟩, hg⟩ := op_cut (prog := C.B.prog) (w := C.B.w) (A := A) (E := E) (s := { s with heap := h₃.push { cls := .type "slice", data := .fields #[ci, cj, .none] }, toks := tk₃ }) h4 R₄ (((r₁.mono R₁ S₂ Apart.none).mono R₂ S₃ Apart.none).grow R₃ hk) (Heap.IsSliceOf.new ..) pi pj (grow_post R₄ fun cv s' P => P.trans R.len S14)
    exact tail_any hT hl hg rfl
end
end Mine

namespace Mine
open PySem PyProof.Rows PySem.Calls

section
variable {C : Cx} {d n : Nat}

theorem sE_call (ok : C.Ok) (hcs : CallSim C d) (hEs : SEs C d n) {e : Expr} {f : Nat} {xs : List Ex} {env : Env} {tbl : List (Str × Nat)} {Γ : Fm} {σ : Sg} {v : V} {σ' : Sg} {A : Around} {s : Shared} {φ : List Addr} {E : Value → Shared → Prop}
    (hc : chkE C.N (n + 1) env.scope.names tbl Γ.length e (.call f xs) = true) (he : evE C.gl (callF C.gl C.P d) (.call f xs) Γ σ = .ok v σ') (hr : Room d A) (R : SR C.B σ φ s.heap) (F : FR C.B tbl env Γ σ φ s.heap) :
    wpAny C.M A (eval e env) (Post C.B s σ φ σ' v) E s := by
  replace hc := on_callN (show onCallN e (fun id es => nameAt C.N.fns f id && (globOk env.scope.names id && (!es.isEmpty && (es.length ≤ 20 && chkEs C.N n env.scope.names tbl Γ.length es xs)))) = true from hc)
  obtain ⟨y, p, es, p', rfl, hc⟩ := hc
  replace hc := both hc
  obtain ⟨q1, hc⟩ := hc
  replace hc := both hc
  obtain ⟨q2, hc⟩ := hc
  replace hc := both hc
  obtain ⟨q4, hc⟩ := hc
  replace hc := both hc
  obtain ⟨q5, q6⟩ := hc
  obtain ⟨q2, q3⟩ := both q2
  · · have hy := nameAt_eq q1
      obtain ⟨a, o, fd, k1, k2, k3⟩ := ok.fn f y hy
      rw [evE_call] at he
      obtain ⟨vs, σ₁, h1, he⟩ := bind_eq_ok he
      refine wpAny_Call_NameR (eval_glob R F ok q2 q3 k1 (callWith_function (o := o) (fd := fd) ?_))
      cases es with
      | nil => cases q4
      | cons e0 es =>
        have he0 := star_of (env := env) (chk_star q6) es
        refine evalArgs_star he0 (wpAny_mono (hEs (e0 :: es) xs env tbl Γ σ vs σ₁ A s φ E p' q6 h1 hr R F) (fun cvs s₁ P => ?_) fun _ _ e => e)
        obtain ⟨φ₁, h₁, tk, rfl, R₁, S₁, r₁⟩ := P
        refine ⟨⟨R₁.based _ _ k2, k3⟩, ?_⟩
        rw [List.nil_append]
        exact wpAny_mono (hcs f y a vs σ₁ v σ' he hy k1 A _ φ₁ cvs E hr R₁ r₁) (fun cv s₂ P => P.trans R.len S₁) fun _ _ e => e

/-- a built-in applied to related values -/
theorem bi_apply {b : Bi} {y : Str} {cv : Value} {vs : List V} {cvs : List Value} {v : V} {σ : Sg} {A : Around} {s : Shared} {φ : List Addr} {E : Value → Shared → Prop} (hb : biOf b = some (y, cv)) (hv : vBi σ b vs = some v)
    (hr : Room d A) (R : SR C.B σ φ s.heap) (r : VRs C.B σ φ s.heap vs cvs) : wpAny C.M A (call cv cvs) (Post C.B s σ φ σ v) E s := by
  cases r with
  | nil => cases hv
  | cons a r =>
    cases r with
    | nil =>
        replace hv : vBi1 σ b _ = some v := hv
        cases b with
        | len =>
          cases hb
          obtain ⟨k, h1, rfl⟩ := Option.map_eq_some_iff.mp hv
          exact op_len h1 ⟨rfl, rfl⟩ R a (grow_post0 R)
        | sum =>
          cases hb
          obtain ⟨xs, h1, hv⟩ := Option.bind_eq_some_iff.mp hv
          obtain ⟨l, h2, rfl⟩ := Option.map_eq_some_iff.mp hv
          exact op_sum h1 h2 hr.hh R a (grow_post0 R)
        | all =>
          cases hb
          obtain ⟨xs, h1, hv⟩ := Option.bind_eq_some_iff.mp hv
          obtain ⟨l, h2, rfl⟩ := Option.map_eq_some_iff.mp hv
          exact op_all h1 h2 hr.hh R a (grow_post0 R)
        | any =>
          cases hb
          obtain ⟨xs, h1, hv⟩ := Option.bind_eq_some_iff.mp hv
          obtain ⟨l, h2, rfl⟩ := Option.map_eq_some_iff.mp hv
          exact op_any h1 h2 hr.hh R a (grow_post0 R)
        | max1 =>
          cases hb
          obtain ⟨xs, h1, hv⟩ := Option.bind_eq_some_iff.mp hv
          obtain ⟨l, h2, hv⟩ := Option.bind_eq_some_iff.mp hv
          cases l with
          | nil => cases hv
          | cons i l => cases hv; exact op_max1 h1 h2 hr.hh R a (grow_post0 R)
        | tuple =>
          cases hb
          obtain ⟨xs, h1, rfl⟩ := Option.map_eq_some_iff.mp hv
          exact op_tuple h1 R a (grow_post0 R)
        | list => cases hv
        | int =>
          cases hb
          cases a with
          | bool b => cases hv; exact op_int (grow_post0 R)
          | _ => cases hv
        | max2 => cases hv
        | min2 => cases hv
        | _ => cases hb
    | cons a' r =>
      cases r with
      | nil =>
        cases b with
        | max2 => cases hv
        | min2 =>
          cases hb
          obtain ⟨i, j, rfl, rfl, hv⟩ := ii_some (f := fun a b => some (V.int (min a b))) hv
          cases hv; cases a; cases a'; exact op_min2 hr.hh (grow_post0 R)
        | _ => cases hv
      | cons _ _ => cases hv

theorem biOf_mem {b : Bi} {y : Str} {cv : Value} (h : biOf b = some (y, cv)) : (y, cv) ∈ bnames ∧ ((∃ id, cv = .builtin id) ∨ ∃ T, cv = .type T) := by
  cases b <;> cases h <;> exact ⟨by first | exact .head _ | exact .tail _ (.head _) | exact .tail _ (.tail _ (.head _)) | exact .tail _ (.tail _ (.tail _ (.head _))) | exact .tail _ (.tail _ (.tail _ (.tail _ (.head _)))) | exact .tail _ (.tail _ (.tail _ (.tail _ (.tail _ (.head _))))) | exact .tail _ (.tail _ (.tail _ (.tail _ (.tail _ (.tail _ (.head _)))))) | exact .tail _ (.tail _ (.tail _ (.tail _ (.tail _ (.tail _ (.tail _ (.head _))))))) | exact .tail _ (.tail _ (.tail _ (.tail _ (.tail _ (.tail _ (.tail _ (.tail _ (.head _)))))))) | exact .tail _ (.tail _ (.tail _ (.tail _ (.tail _ (.tail _ (.tail _ (.tail _ (.tail _ (.head _))))))))) | exact .tail _ (.tail _ (.tail _ (.tail _ (.tail _ (.tail _ (.tail _ (.tail _ (.tail _ (.tail _ (.head _)))))))))) | exact .tail _ (.tail _ (.tail _ (.tail _ (.tail _ (.tail _ (.tail _ (.tail _ (.tail _ (.tail _ (.tail _ (.head _))))))))))) | exact .tail _ (.tail _ (.tail _ (.tail _ (.tail _ (.tail _ (.tail _ (.tail _ (.tail _ (.tail _ (.tail _ (.tail _ (.head _)))))))))))) | exact .tail _ (.tail _ (.tail _ (.tail _ (.tail _ (.tail _ (.tail _ (.tail _ (.tail _ (.tail _ (.tail _ (.tail _ (.tail _ (.head _))))))))))))) | exact .tail _ (.tail _ (.tail _ (.tail _ (.tail _ (.tail _ (.tail _ (.tail _ (.tail _ (.tail _ (.tail _ (.tail _ (.tail _ (.tail _ (.head _)))))))))))))), by first | exact .inl ⟨_, rfl⟩ | exact .inr ⟨_, rfl⟩⟩
theorem isaOf_mem {b : Bi} {y : Str} {T : String} (h : isaOf b = some (y, T)) : (y, Value.type T) ∈ bnames ∧ T = isaT b ∧ ∀ c, b ≠ .isExc c := by
  cases b <;> cases h <;> exact ⟨by first | exact .head _ | exact .tail _ (.head _) | exact .tail _ (.tail _ (.head _)) | exact .tail _ (.tail _ (.tail _ (.head _))) | exact .tail _ (.tail _ (.tail _ (.tail _ (.head _)))) | exact .tail _ (.tail _ (.tail _ (.tail _ (.tail _ (.head _))))) | exact .tail _ (.tail _ (.tail _ (.tail _ (.tail _ (.tail _ (.head _)))))) | exact .tail _ (.tail _ (.tail _ (.tail _ (.tail _ (.tail _ (.tail _ (.head _))))))) | exact .tail _ (.tail _ (.tail _ (.tail _ (.tail _ (.tail _ (.tail _ (.tail _ (.head _)))))))) | exact .tail _ (.tail _ (.tail _ (.tail _ (.tail _ (.tail _ (.tail _ (.tail _ (.tail _ (.head _))))))))) | exact .tail _ (.tail _ (.tail _ (.tail _ (.tail _ (.tail _ (.tail _ (.tail _ (.tail _ (.tail _ (.head _)))))))))) | exact .tail _ (.tail _ (.tail _ (.tail _ (.tail _ (.tail _ (.tail _ (.tail _ (.tail _ (.tail _ (.tail _ (.head _))))))))))) | exact .tail _ (.tail _ (.tail _ (.tail _ (.tail _ (.tail _ (.tail _ (.tail _ (.tail _ (.tail _ (.tail _ (.tail _ (.head _)))))))))))) | exact .tail _ (.tail _ (.tail _ (.tail _ (.tail _ (.tail _ (.tail _ (.tail _ (.tail _ (.tail _ (.tail _ (.tail _ (.tail _ (.head _))))))))))))) | exact .tail _ (.tail _ (.tail _ (.tail _ (.tail _ (.tail _ (.tail _ (.tail _ (.tail _ (.tail _ (.tail _ (.tail _ (.tail _ (.tail _ (.head _)))))))))))))), rfl, by intro c h; cases h⟩

/-- the two ways in which an isinstance says something -/
theorem isa_or {σ : Sg} {b : Bi} {y : Str × String} {u v : V} (hy : isaOf b = some y) (h : vBi1 σ b u = some v) :
    (∃ t, vIsa b u = some t ∧ v = .bool t) ∨ ∃ i xs, b = .isLst ∧ u = .ref i ∧ σ[i]? = some (.lst xs) ∧ v = .bool true := by
  have gen : ∀ {o : Option Bool}, o.map V.bool = some v → ∃ t, o = some t ∧ v = .bool t := fun {o} h => by
    cases o with
    | none => cases h
    | some t => cases h; exact ⟨t, rfl, rfl⟩
  cases b with
  | isLst =>
    cases u with
    | ref i =>
      replace h : isLstC σ[i]? = some v := h
      cases hi : σ[i]? with
      | none => rw [hi] at h; cases h
      | some c =>
        rw [hi] at h
        cases c with
        | lst xs => cases h; exact .inr ⟨i, xs, rfl, rfl, hi, rfl⟩
        | _ => cases h
    | _ => exact .inl (gen h)
  | isBool => exact .inl (gen h)
  | isInt => exact .inl (gen h)
  | isStr => exact .inl (gen h)
  | isTup => exact .inl (gen h)
  | _ => cases hy

theorem sE_bi (ok : C.Ok) (hE : SE C d n) (hEs : SEs C d n) {e : Expr} {b : Bi} {xs : List Ex} {env : Env} {tbl : List (Str × Nat)} {Γ : Fm} {σ : Sg} {v : V} {σ' : Sg} {A : Around} {s : Shared} {φ : List Addr} {E : Value → Shared → Prop}
    (hc : chkE C.N (n + 1) env.scope.names tbl Γ.length e (.bi b xs) = true) (he : evE C.gl (callF C.gl C.P d) (.bi b xs) Γ σ = .ok v σ') (hr : Room d A) (R : SR C.B σ φ s.heap) (F : FR C.B tbl env Γ σ φ s.heap) :
    wpAny C.M A (eval e env) (Post C.B s σ φ σ' v) E s := by
  rw [evE_bi] at he
  obtain ⟨vs, σ₁, h1, he⟩ := bind_eq_ok he
  obtain ⟨h2, e2⟩ := of_eq_ok he
  subst e2
  replace hc : (match isaOf b with
      | some y => onCallN e fun id es => on2 es fun e ty => on1 xs fun x => onName ty fun ty => eqS id sInst && (eqS ty y.1 && (globOk env.scope.names id && (globOk env.scope.names ty && (notStar e && chkE C.N n env.scope.names tbl Γ.length e x))))
      | none => onO (biOf b) fun y => onCallN e fun id es => eqS id y.1 && (globOk env.scope.names id && (!es.isEmpty && (es.length ≤ 20 && chkEs C.N n env.scope.names tbl Γ.length es xs)))) = true := hc
  cases hy : isaOf b with
  | some y =>
    rw [hy] at hc
    obtain ⟨y, T⟩ := y
    obtain ⟨k1, k2, k3⟩ := isaOf_mem hy
    replace hc := on_callN hc
    obtain ⟨id, p, es, p3, rfl, hc⟩ := hc
    replace hc := on_2 hc
    obtain ⟨e0, ty0, rfl, hc⟩ := hc
    replace hc := on_1 hc
    obtain ⟨x, rfl, hc⟩ := hc
    replace hc := on_name hc
    obtain ⟨ty, p2, rfl, hc⟩ := hc
    replace hc := both hc
    obtain ⟨q1, hc⟩ := hc
    replace hc := both hc
    obtain ⟨q2, hc⟩ := hc
    replace hc := both hc
    obtain ⟨q3, hc⟩ := hc
    replace hc := both hc
    obtain ⟨q4, hc⟩ := hc
    replace hc := both hc
    obtain ⟨qs, q7⟩ := hc
    obtain ⟨q3, q5⟩ := both q3
    obtain ⟨q4, q6⟩ := both q4
    have e1 := eqS_iff.mp q1
    have e2 := eqS_iff.mp q2
    subst e2
    rw [evEs_cons] at h1
    obtain ⟨u, σ₂, h3, h1⟩ := bind_eq_ok h1
    cases h1
    refine wpAny_Call_NameR (eval_bin (cv := .builtin "isinstance") R F ok q3 q5 (by rw [e1]; simp [bnames, sInst]) (callWith_plain (.inl ⟨_, rfl⟩) ?_ ?_))
    · rw [star_of qs]; rfl
    · refine evalArgs_star (star_of qs _) ?_
      rw [star_of qs]
      show wpAny C.M A (spliced ((false, eval e0 env) :: (false, eval (.Name ty p2) env) :: [])) _ E s
      refine spliced_cons (post_mono (hE e0 x env tbl Γ σ u _ A s φ E q7 h3 hr R F) fun cv φ₁ h₁ tk R₁ S₁ r₁ => ?_)
      refine spliced_cons (eval_bin (cv := .type T) R₁ (F.mono0 R S₁) ok q4 q6 k1 (spliced_nil ?_))
      show wpAny C.M A (call (.builtin "isinstance") [cv, .type T]) _ E _
      replace h2 : vBi1 σ₁ b u = some v := h2
      have fin : ∀ cv s', Post C.B { s with heap := h₁, toks := tk } σ₁ φ₁ σ₁ v cv s' → Post C.B s σ φ σ₁ v cv s' := fun cv s' P => P.trans R.len S₁
      rw [k2]
      rcases isa_or hy h2 with ⟨t, ht, rfl⟩ | ⟨i, xs, rfl, rfl, hi, rfl⟩
      · exact op_isa ht k3 r₁ (grow_post R₁ fin)
      · exact op_isaLst hi R₁ r₁ (grow_post R₁ fin)
  | none =>
    rw [hy] at hc
    replace hc := on_o hc
    obtain ⟨y, hb, hc⟩ := hc
    obtain ⟨y, cv⟩ := y
    obtain ⟨k1, k2⟩ := biOf_mem hb
    replace hc := on_callN hc
    obtain ⟨id, p, es, p', rfl, hc⟩ := hc
    replace hc := both hc
    obtain ⟨q1, hc⟩ := hc
    replace hc := both hc
    obtain ⟨q2, hc⟩ := hc
    replace hc := both hc
    obtain ⟨q4, hc⟩ := hc
    replace hc := both hc
    obtain ⟨q5, q6⟩ := hc
    obtain ⟨q2, q3⟩ := both q2
    have := eqS_iff.mp q1
    subst this
    cases es with
    | nil => cases q4
    | cons e0 es =>
      have he0 := star_of (env := env) (chk_star q6) es
      refine wpAny_Call_NameR (eval_bin R F ok q2 q3 k1 (callWith_plain k2 (back_any q6) ?_))
      refine evalArgs_star he0 (wpAny_mono (hEs (e0 :: es) xs env tbl Γ σ vs σ₁ A s φ E p' q6 h1 hr R F) (fun cvs s₁ P => ?_) fun _ _ e => e)
      obtain ⟨φ₁, h₁, tk, rfl, R₁, S₁, r₁⟩ := P
      rw [List.nil_append]
      exact wpAny_mono (bi_apply (d := d) hb h2 hr R₁ r₁) (fun cv s₂ P => P.trans R.len S₁) fun _ _ e => e
end
end Mine

namespace Mine
open PySem PyProof.Rows PySem.Calls

section
variable {C : Cx} {d n : Nat}

theorem live_type {σ : Sg} {φ : List Addr} {s : Shared} {i : Nat} {xs : List V} {cv : Value} (hi : σ[i]? = some (.lst xs)) (R : SR C.B σ φ s.heap) (r : VR C.B σ φ s.heap (.ref i) cv) :
    s.TypeIs cv "list" ∧ ∀ a, cv = .ref a → ∃ ob, s.heap.get? a = some ob ∧ ob.dict = none := by
  cases r with
  | ref ha =>
    obtain ⟨a', vs, e1, ⟨k, e2⟩, _⟩ := R.lst i xs hi
    rw [ha] at e1; cases e1
    exact ⟨⟨_, e2, rfl⟩, fun a e => by cases e; exact ⟨_, e2, rfl⟩⟩

theorem live_of {σ : Sg} {u : V} {k : Unit} (h : liveL σ u = some k) : ∃ i xs, u = .ref i ∧ σ[i]? = some (.lst xs) := by
  cases u with
  | ref i =>
    replace h : (match σ[i]? with | some (.lst _) => some () | _ => none) = some k := h
    cases hi : σ[i]? with
    | none => rw [hi] at h; cases h
    | some c =>
      cases c with
      | lst xs => exact ⟨i, xs, rfl, hi⟩
      | _ => rw [hi] at h; cases h
  | _ => cases h
theorem live_if {α : Type} {σ : Sg} {i : Nat} {f : List V → Option α} {a : α} (h : (match σ[i]? with | some (.lst xs) => f xs | _ => none) = some a) : ∃ xs, σ[i]? = some (.lst xs) := by
  cases hi : σ[i]? with
  | none => rw [hi] at h; cases h
  | some c =>
    cases c with
    | lst xs => exact ⟨xs, rfl⟩
    | _ => rw [hi] at h; cases h

theorem sE_app (hE : SE C d n) {e : Expr} {a b : Ex} {env : Env} {tbl : List (Str × Nat)} {Γ : Fm} {σ : Sg} {v : V} {σ' : Sg} {A : Around} {s : Shared} {φ : List Addr} {E : Value → Shared → Prop}
    (hc : chkE C.N (n + 1) env.scope.names tbl Γ.length e (.app a b) = true) (he : evE C.gl (callF C.gl C.P d) (.app a b) Γ σ = .ok v σ') (hr : Room d A) (R : SR C.B σ φ s.heap) (F : FR C.B tbl env Γ σ φ s.heap) :
    wpAny C.M A (eval e env) (Post C.B s σ φ σ' v) E s := by
  replace hc := on_meth (show onMeth e (fun o name es => on1 es fun e => eqS name (Str.ofString "append") && (notStar e && (chkE C.N n env.scope.names tbl Γ.length o a && chkE C.N n env.scope.names tbl Γ.length e b))) = true from hc)
  obtain ⟨o, name, apos, es, pos, rfl, q2, q3, hc⟩ := hc
  replace hc := on_1 hc
  obtain ⟨e1, rfl, hc⟩ := hc
  replace hc := both hc
  obtain ⟨q1, hc⟩ := hc
  replace hc := both hc
  obtain ⟨q0, hc⟩ := hc
  replace hc := both hc
  obtain ⟨q4, q5⟩ := hc
  have := eqS_iff.mp q1
  subst this
  have hst : starEach [e1] env = [(false, eval e1 env)] := star_of q0 []
  rw [evE_app] at he
  obtain ⟨u, σ₁, h1, he⟩ := bind_eq_ok he
  obtain ⟨_, h2, he⟩ := bind_of_ok he
  obtain ⟨w, σ₂, h3, he⟩ := bind_eq_ok he
  obtain ⟨rfl, h4⟩ := st_eq_ok he
  obtain ⟨r, xs, rfl, hx⟩ := live_of h2
  refine wpAny_Call_method (T := "list") (id := "list.append") (base_of q2 _ _) (by rw [hst]; rfl) q3 PySem.F.plainAttrs_list PySem.F.slot_list_append PySem.F.type_list_append
    (post_mono (hE o a env tbl Γ σ _ σ₁ A s φ E q4 h1 hr R F) fun cv φ₁ h₁ tk R₁ S₁ r₁ => ?_)
  obtain ⟨t1, t2⟩ := live_type (s := { s with heap := h₁, toks := tk }) hx R₁ r₁
  refine ⟨t1, t2, ?_⟩
  rw [hst]
  cases r₁ with
  | ref ha =>
  show wpAny C.M A (callWith pos (.builtin "list.append") _ [(false, eval e1 env)] []) _ E _
  refine P.append_list (post_mono (hE e1 b env tbl Γ σ₁ w σ₂ A _ φ₁ E q5 h3 hr R₁ (F.mono0 R S₁)) fun cw φ₂ h₂ tk₂ R₂ S₂ r₂ => ?_)
  obtain ⟨l, items, k, e0, z1, z2, P⟩ := op_app (s := { s with heap := h₂, toks := tk₂ }) h4 R₂ (VR.mono (W := W0) R₁ S₂ Apart.none (.ref ha)) r₂
  cases e0
  exact ⟨items, k, z1, z2, P.trans R.len (S₁.trans S₂ R.len)⟩

theorem sE_join (hE : SE C d n) {e : Expr} {a b : Ex} {env : Env} {tbl : List (Str × Nat)} {Γ : Fm} {σ : Sg} {v : V} {σ' : Sg} {A : Around} {s : Shared} {φ : List Addr} {E : Value → Shared → Prop}
    (hc : chkE C.N (n + 1) env.scope.names tbl Γ.length e (.join a b) = true) (he : evE C.gl (callF C.gl C.P d) (.join a b) Γ σ = .ok v σ') (hr : Room d A) (R : SR C.B σ φ s.heap) (F : FR C.B tbl env Γ σ φ s.heap) :
    wpAny C.M A (eval e env) (Post C.B s σ φ σ' v) E s := by
  replace hc := on_meth (show onMeth e (fun o name es => on1 es fun e => eqS name (Str.ofString "join") && (notStar e && (chkE C.N n env.scope.names tbl Γ.length o a && chkE C.N n env.scope.names tbl Γ.length e b))) = true from hc)
  obtain ⟨o, name, apos, es, pos, rfl, q2, q3, hc⟩ := hc
  replace hc := on_1 hc
  obtain ⟨e1, rfl, hc⟩ := hc
  replace hc := both hc
  obtain ⟨q1, hc⟩ := hc
  replace hc := both hc
  obtain ⟨q0, hc⟩ := hc
  replace hc := both hc
  obtain ⟨q4, q5⟩ := hc
  have := eqS_iff.mp q1
  subst this
  have hst : starEach [e1] env = [(false, eval e1 env)] := star_of q0 []
  rw [evE_join] at he
  obtain ⟨u, σ₁, h1, he⟩ := bind_eq_ok he
  obtain ⟨w, σ₂, h3, he⟩ := bind_eq_ok he
  obtain ⟨h4, e4⟩ := of_eq_ok he
  subst e4
  refine wpAny_Call_method (T := "str") (id := "str.join") (base_of q2 _ _) (by rw [hst]; rfl) q3 PySem.F.plainAttrs_str PySem.F.slot_str_join PySem.F.type_str_join
    (post_mono (hE o a env tbl Γ σ _ σ₁ A s φ E q4 h1 hr R F) fun cv φ₁ h₁ tk R₁ S₁ r₁ => ?_)
  cases r₁ with
  | str x t hs =>
    refine ⟨typeIs_str _ _ _, (fun a e => by cases e), ?_⟩
    rw [hst]
    show wpAny C.M A (callWith pos (.builtin "str.join") _ [(false, eval e1 env)] []) _ E _
    refine callWith_plain (.inl ⟨_, rfl⟩) rfl (evalArgs_plain (spliced_cons (post_mono (hE e1 b env tbl Γ σ₁ w σ₂ A _ φ₁ E q5 h3 hr R₁ (F.mono0 R S₁)) fun cw φ₂ h₂ tk₂ R₂ S₂ r₂ => spliced_nil ?_)))
    obtain ⟨_, _, _, hw⟩ := op_join (prog := C.B.prog) (w := C.B.w) (A := A) (E := E) (s := { s with heap := h₂, toks := tk₂ }) h4 R₂ (.str x t hs) r₂ (grow_post R₂ fun cv s' P => P.trans R.len (S₁.trans S₂ R.len))
    exact hw
  | _ => cases h4

theorem on_meth0 {e : Expr} {nm : Str} {g : Expr → Bool} (hc : onMeth e (fun o name es => nilL es && (eqS name nm && g o)) = true) : ∃ o ap q, e = .Call (.Attribute o nm ap) [] [] q ∧ baseOk o = true ∧ (ap.endLine == q.line) = true ∧ g o = true := by
  replace hc := on_meth hc
  obtain ⟨o, name, apos, es, pos, rfl, q2, q3, hc⟩ := hc
  replace hc := both hc
  obtain ⟨q0, hc⟩ := hc
  replace hc := both hc
  obtain ⟨q1, q4⟩ := hc
  rw [nilL_eq q0, eqS_iff.mp q1]
  exact ⟨o, apos, pos, rfl, q2, q3, q4⟩

theorem sE_pop (hE : SE C d n) {e : Expr} {a : Ex} {env : Env} {tbl : List (Str × Nat)} {Γ : Fm} {σ : Sg} {v : V} {σ' : Sg} {A : Around} {s : Shared} {φ : List Addr} {E : Value → Shared → Prop}
    (hc : chkE C.N (n + 1) env.scope.names tbl Γ.length e (.pop a) = true) (he : evE C.gl (callF C.gl C.P d) (.pop a) Γ σ = .ok v σ') (hr : Room d A) (R : SR C.B σ φ s.heap) (F : FR C.B tbl env Γ σ φ s.heap) :
    wpAny C.M A (eval e env) (Post C.B s σ φ σ' v) E s := by
  replace hc := on_meth0 (show onMeth e (fun o name es => nilL es && (eqS name (Str.ofString "pop") && chkE C.N n env.scope.names tbl Γ.length o a)) = true from hc)
  obtain ⟨o, apos, pos, rfl, q2, q3, q4⟩ := hc
  rw [evE_pop] at he
  obtain ⟨u, σ₁, h1, he⟩ := bind_eq_ok he
  have h4 := vs_eq_ok he
  cases u with
  | ref i =>
    obtain ⟨xs, hi⟩ := live_if h4
    refine wpAny_Call_method (T := "list") (id := "list.pop") (base_of q2 _ _) rfl q3 PySem.F.plainAttrs_list PySem.F.slot_list_pop PySem.F.type_list_pop
      (post_mono (hE o a env tbl Γ σ _ σ₁ A s φ E q4 h1 hr R F) fun cv φ₁ h₁ tk R₁ S₁ r₁ => ?_)
    obtain ⟨t1, t2⟩ := live_type (s := { s with heap := h₁, toks := tk }) hi R₁ r₁
    refine ⟨t1, t2, ?_⟩
    obtain ⟨l, e0, hw⟩ := op_pop (prog := C.B.prog) (w := C.B.w) (A := A) (E := E) (s := { s with heap := h₁, toks := tk }) (pos := pos) h4 R₁ r₁
    exact wpAny_mono hw (fun cv s₂ P => P.trans R.len S₁) fun _ _ e => e
  | _ => cases h4

end
end Mine

namespace Mine
open PySem PyProof.Rows PySem.Calls

section
variable {C : Cx} {d n : Nat}

theorem sI_succ (ok : C.Ok) (hE : SE C d n) : SI C d (n + 1) := by
  intro e ik x y env tbl Γ σ a σ₁ b σ₂ items A s φ E hc h1 h2 hv hr R F
  cases ik with
  | val =>
    replace hc := both (show (setOk e && (isNoneX y && chkE C.N n env.scope.names tbl Γ.length e x)) = true from hc)
    obtain ⟨q0, hc⟩ := hc
    replace hc := both hc
    obtain ⟨q1, hc⟩ := hc
    rw [isNoneX_eq q1] at h2
    cases h2
    refine post_mono (hE _ _ env _ Γ σ a _ A s φ E hc h1 hr R F) fun cv φ₁ h₁ tk R₁ S₁ r₁ => ⟨φ₁, h₁, tk, rfl, R₁, S₁, .val hv r₁⟩
  | rng1 =>
    replace hc := on_callN (both (show (setOk e && (onCallN e fun id es => on1 es fun e => isNoneX y && (eqS id sRange && (globOk env.scope.names id && (notStar e && chkE C.N n env.scope.names tbl Γ.length e x))))) = true from hc)).2
    obtain ⟨id, p, es, p', rfl, hc⟩ := hc
    replace hc := on_1 hc
    obtain ⟨e1, rfl, hc⟩ := hc
    replace hc := both hc
    obtain ⟨qn, hc⟩ := hc
    replace hc := both hc
    obtain ⟨q1, hc⟩ := hc
    replace hc := both hc
    obtain ⟨q2, hc⟩ := hc
    replace hc := both hc
    obtain ⟨q0, q4⟩ := hc
    obtain ⟨q2, q3⟩ := both q2
    have e1' := eqS_iff.mp q1
    subst e1'
    rw [isNoneX_eq qn] at h2
    cases h2
    cases a with
    | int k =>
      replace hv : (if small k = true then some (rangeL 0 k) else none) = some items := hv
      by_cases hs : small k = true
      · rw [if_pos hs] at hv
        cases hv
        have hst : starEach [e1] env = [(false, eval e1 env)] := star_of q0 []
        refine wpAny_Call_NameR (eval_bin (cv := .type "range") R F ok q2 q3 (by simp [bnames, sRange]) ?_)
        rw [hst]
        refine callWith_plain (.inr ⟨_, rfl⟩) rfl (evalArgs_plain (spliced_cons (post_mono (hE _ _ env _ Γ σ _ _ A s φ E q4 h1 hr R F) fun cv φ₁ h₁ tk R₁ S₁ r₁ => spliced_nil ?_)))
        cases r₁ with
        | int _ t =>
        refine call_range_1 ?_
        exact ⟨φ₁, _, _, rfl, R₁.grow (push_keeps _ _), S₁.trans (Stp.grow (push_keeps _ _)) R.len, .rng (by decide) hs (Heap.get?_push_size _ rfl)⟩
      · rw [if_neg hs] at hv; cases hv
    | _ => cases hv
  | rng2 => cases hv
  | rev => cases hv
end
end Mine

namespace Mine
open PySem PyProof.Rows PySem.Calls

noncomputable def Bs.wav (B : Bs) (D : Addr) : Bs := { B with av := fun b => B.av b ∨ b = D }
noncomputable def Cx.wav (C : Cx) (D : Addr) : Cx := { C with B := C.B.wav D }
theorem Cx.Ok.wav {C : Cx} (ok : C.Ok) (D : Addr) : (C.wav D).Ok := ⟨ok.g, ok.b, ok.nolimit, ok.bins, ok.glob, ok.fn⟩

section
variable {B : Bs} {σ : Sg} {φ : List Addr} {h h' : Heap} {D : Addr}

mutual
theorem VR.to (hD : h.get? D = none) (hk : ∀ b o, h.get? b = some o → h'.get? b = some o) : ∀ {x : V} {v : Value}, VR B σ φ h x v → VR (B.wav D) σ φ h' x v
  | _, _, .none => .none
  | _, _, .bool b => .bool b
  | _, _, .int i t => .int i t
  | _, _, .str s t hs => .str s t hs
  | _, _, .tup ⟨n, e⟩ r hn => .tup ⟨n, hk _ _ e⟩ (VRs.to hD hk r) hn
  | _, _, .lst ⟨n, e⟩ nl r hn => .lst ⟨n, hk _ _ e⟩ ⟨nl.1, fun x => x.elim nl.2 fun q => by rw [q, hD] at e; cases e⟩ (VRs.to hD hk r) hn
  | _, _, .ref e => .ref e
  | _, _, .exc e1 e2 e3 e4 => .exc e1 (hk _ _ e2) e3 e4
theorem VRs.to (hD : h.get? D = none) (hk : ∀ b o, h.get? b = some o → h'.get? b = some o) : ∀ {xs : List V} {vs : List Value}, VRs B σ φ h xs vs → VRs (B.wav D) σ φ h' xs vs
  | _, _, .nil => .nil
  | _, _, .cons a r => .cons (VR.to hD hk a) (VRs.to hD hk r)
end

mutual
theorem VR.fro : ∀ {x : V} {v : Value}, VR (B.wav D) σ φ h x v → VR B σ φ h x v
  | _, _, .none => .none
  | _, _, .bool b => .bool b
  | _, _, .int i t => .int i t
  | _, _, .str s t hs => .str s t hs
  | _, _, .tup e r hn => .tup e (VRs.fro r) hn
  | _, _, .lst e nl r hn => .lst e ⟨nl.1, fun x => nl.2 (.inl x)⟩ (VRs.fro r) hn
  | _, _, .ref e => .ref e
  | _, _, .exc e1 e2 e3 e4 => .exc e1 e2 e3 e4
theorem VRs.fro : ∀ {xs : List V} {vs : List Value}, VRs (B.wav D) σ φ h xs vs → VRs B σ φ h xs vs
  | _, _, .nil => .nil
  | _, _, .cons a r => .cons (VR.fro a) (VRs.fro r)
end

theorem live_snoc {c : Cell} {a : Addr} (hl : φ.length = σ.length) (L : live (σ ++ [c]) (φ ++ [D]) a) : live σ φ a ∨ a = D := by
  obtain ⟨i, c', e1, e2, e3⟩ := L
  rcases getElem?_snoc e3 with e3 | ⟨rfl, rfl⟩
  · have hi : i < σ.length := hl ▸ (List.getElem?_eq_some_iff.mp e3).1
    rw [List.getElem?_append_left hi] at e1
    exact .inl ⟨i, c', e1, e2, e3⟩
  · exact .inr rfl

mutual
theorem VR.adopt {c : Cell} (hl : φ.length = σ.length) : ∀ {x : V} {v : Value}, VR (B.wav D) σ φ h x v → VR B (σ ++ [c]) (φ ++ [D]) h x v
  | _, _, .none => .none
  | _, _, .bool b => .bool b
  | _, _, .int i t => .int i t
  | _, _, .str s t hs => .str s t hs
  | _, _, .tup e r hn => .tup e (VRs.adopt hl r) hn
  | _, _, .lst e nl r hn => .lst e ⟨fun L => (live_snoc hl L).elim nl.1 fun q => nl.2 (.inr q), fun x => nl.2 (.inl x)⟩ (VRs.adopt hl r) hn
  | _, _, .ref e => .ref (getElem?_snoc_lt e)
  | _, _, .exc e1 e2 e3 e4 => .exc e1 e2 e3 e4
theorem VRs.adopt {c : Cell} (hl : φ.length = σ.length) : ∀ {xs : List V} {vs : List Value}, VRs (B.wav D) σ φ h xs vs → VRs B (σ ++ [c]) (φ ++ [D]) h xs vs
  | _, _, .nil => .nil
  | _, _, .cons a r => .cons (VR.adopt hl a) (VRs.adopt hl r)
end

theorem DictP.at' {a : Addr} {ks : List (List Int)} (d : DictP B h a ks) (hk : ∀ b o, h.get? b = some o → h'.get? b = some o) : DictP B h' a ks := by
  obtain ⟨kvs, ⟨o, es, ep, ho, hx, hd, hes, his, hn⟩, e⟩ := d
  refine ⟨kvs, ⟨o, es, ep, hk _ o ho, hx, hd, hes, fun x hx => ?_, hn⟩, e⟩
  obtain ⟨o', items, n, h1, h2, h3, h4⟩ := his x hx
  exact ⟨o', items, n, hk _ o' h1, h2, h3, h4⟩

theorem SR.to (R : SR B σ φ h) (hD : h.get? D = none) (hk : ∀ b o, h.get? b = some o → h'.get? b = some o) (hx : ∃ o, h'.get? D = some o) : SR (B.wav D) σ φ h' := by
  refine ⟨R.len, R.inj, fun a ha => (let ⟨o, e⟩ := R.ex a ha; ⟨o, hk _ _ e⟩), fun i xs e => ?_, fun i ks e => ?_, fun i ks e => ?_, (let ⟨o, e⟩ := R.main; ⟨o, hk _ _ e⟩), R.sys, fun b o e => hk _ _ (R.based b o e), R.new, fun b hb => ?_, fun a ha hv => ?_⟩
  · obtain ⟨a, vs, e1, ⟨n, e2⟩, e3, e4⟩ := R.lst i xs e
    exact ⟨a, vs, e1, ⟨n, hk _ _ e2⟩, e3.to hD hk, e4⟩
  · obtain ⟨a, e1, d, e2⟩ := R.dictI i ks e
    exact ⟨a, e1, d.mono fun o e => hk _ o e, e2⟩
  · obtain ⟨a, e1, d, e2⟩ := R.dictP i ks e
    exact ⟨a, e1, d.at' hk, e2⟩
  · rcases hb with hb | rfl
    · obtain ⟨o, e⟩ := R.avx b hb; exact ⟨o, hk _ _ e⟩
    · exact hx
  · rcases hv with hv | rfl
    · exact R.avn a ha hv
    · obtain ⟨o, e⟩ := R.ex _ ha; rw [hD] at e; cases e

theorem SR.fro (R : SR (B.wav D) σ φ h) : SR B σ φ h := by
  refine ⟨R.len, R.inj, R.ex, fun i xs e => ?_, R.dictI, R.dictP, R.main, R.sys, R.based, R.new, fun b hb => R.avx b (.inl hb), fun a ha hv => R.avn a ha (.inl hv)⟩
  obtain ⟨a, vs, e1, e2, e3, e4⟩ := R.lst i xs e
  exact ⟨a, vs, e1, e2, e3.fro, e4⟩

/-- the list that a loop has filled becomes a live cell -/
theorem SR.adopt {xs : List V} {vs : List Value} (R : SR (B.wav D) σ φ h) (hp : h.PlainList D vs.toArray) (r : VRs (B.wav D) σ φ h xs vs) (hn : xs.length ≤ roomy) (hs : (D == sysModules) = false) (hb : B.hb.get? D = none) (hv : ¬ B.av D) :
    SR B (σ ++ [.lst xs]) (φ ++ [D]) h := by
  obtain ⟨k, ho⟩ := id hp
  have hmem : D ∉ φ := fun hm => R.avn D hm (.inr rfl)
  refine ⟨by rw [List.length_append, List.length_append, R.len]; rfl, ?_, fun b hb => ?_, fun i ys e => ?_, fun i ks e => ?_, fun i ks e => ?_, R.main, fun b hb => ?_, R.based, fun b hb => ?_, fun b hb => R.avx b (.inl hb), fun b hb hv' => ?_⟩
  · refine List.nodup_append.mpr ⟨R.inj, (by simp), fun x hx y hy e => ?_⟩
    rw [List.mem_singleton.mp hy] at e
    exact hmem (e ▸ hx)
  · rcases List.mem_append.mp hb with hb | hb
    · exact R.ex b hb
    · rw [List.mem_singleton.mp hb]; exact ⟨_, ho⟩
  · rcases getElem?_snoc e with e | ⟨rfl, e'⟩
    · obtain ⟨a, ws, e1, e2, e3, e4⟩ := R.lst i ys e
      exact ⟨a, ws, getElem?_snoc_lt e1, e2, e3.adopt R.len, e4⟩
    · cases e'
      exact ⟨D, vs, (by rw [← R.len]; simp), hp, r.adopt R.len, hn⟩
  · rcases getElem?_snoc e with e | ⟨rfl, e'⟩
    · obtain ⟨a, e1, d, e2⟩ := R.dictI i ks e
      exact ⟨a, getElem?_snoc_lt e1, d, e2⟩
    · cases e'
  · rcases getElem?_snoc e with e | ⟨rfl, e'⟩
    · obtain ⟨a, e1, d, e2⟩ := R.dictP i ks e
      exact ⟨a, getElem?_snoc_lt e1, d, e2⟩
    · cases e'
  · rcases List.mem_append.mp hb with hb | hb
    · exact R.sys b hb
    · rw [List.mem_singleton.mp hb]; exact hs
  · rename_i hb'
    rcases List.mem_append.mp hb with hb | hb
    · exact R.new b hb
    · rw [List.mem_singleton.mp hb]; exact hb'
  · rcases List.mem_append.mp hb with hb | hb
    · exact R.avn b hb (.inl hv')
    · rw [List.mem_singleton.mp hb] at hv'; exact hv hv'

theorem FR.to {tbl : List (Str × Nat)} {env : Env} {Γ : Fm} (F : FR B tbl env Γ σ φ h) (hD : h.get? D = none) (hk : ∀ b o, h.get? b = some o → h'.get? b = some o) : FR (B.wav D) tbl env Γ σ φ h' := by
  obtain ⟨m, ⟨o, es, ep, ho, hd, hk', hf⟩, hv⟩ := F.ns
  refine ⟨F.kind, F.gl, F.bi, ⟨m, ⟨o, es, ep, hk _ _ ho, hd, hk', hf⟩, fun x i v e1 e2 e3 => ?_⟩, fun x i v e1 e2 e3 => ?_, F.nl, fun x c hx => ?_, F.newL, F.newC, F.has⟩
  · obtain ⟨cv, e4, e5⟩ := hv x i v e1 e2 e3
    exact ⟨cv, e4, e5.to hD hk⟩
  · obtain ⟨c, cv, e4, ⟨o, e5, e6⟩, e7⟩ := F.cell x i v e1 e2 e3
    exact ⟨c, cv, e4, ⟨o, hk _ _ e5, e6⟩, e7.to hD hk⟩
  · obtain ⟨v, o, e1, e2⟩ := F.cells x c hx
    exact ⟨v, o, hk _ _ e1, e2⟩

/-- one object that is neither live nor data is turned -/
theorem SR.one {b0 : Addr} (R : SR B σ φ h) (hb0 : B.hb.get? b0 = none) (ha : Apart B (· = b0) h) (nl : ¬ live σ φ b0) (hk : ∀ b o, b ≠ b0 → h.get? b = some o → h'.get? b = some o) (hx : ∃ o, h'.get? b0 = some o) :
    SR B σ φ h' ∧ Stp (· = b0) σ φ h σ φ h' := by
  have S : Stp (· = b0) σ φ h σ φ h' := ⟨fun _ _ e => e, fun i a hi e => (by rw [List.getElem?_eq_none hi] at e; cases e), fun _ e => e, fun b o e _ hW => hk b o hW e, fun b o e => by
    by_cases q : b = b0
    · rw [q]; exact hx
    · exact ⟨o, hk b o q e⟩⟩
  exact ⟨R.carry S ha (fun a o L e => hk a o (fun q => nl (q ▸ L)) e) fun b hb => (by rw [show b = b0 from hb]; exact hb0), S⟩

theorem Stp.drop {W : Addr → Prop} {σ₁ : Sg} {φ₁ : List Addr} {h₁ : Heap} (S : Stp W σ φ h σ₁ φ₁ h₁) (hw : ∀ b, W b → h.get? b = none) : Stp W0 σ φ h σ₁ φ₁ h₁ :=
  ⟨S.pre, S.new, S.dead, fun b o e hl _ => S.keep b o e hl fun x => (by rw [hw b x] at e; cases e), S.ex⟩

theorem Apart.ns {K : Addr} {m : Str → Option Value} (hn : h.Ns K m) : Apart B (· = K) h := by
  rintro b rfl o ho
  obtain ⟨o', es, ep, ho', hd, _⟩ := hn
  rw [ho] at ho'; cases ho'
  exact .inr ⟨fun xs n e => (by rw [hd] at e; cases e), fun fs e => (by rw [hd] at e; cases e)⟩
end

/-! ### closures -/
noncomputable def clos (cells : List (Str × Addr)) : List (Str × NameKind) → List (Str × Addr) → List (Str × Addr)
  | [], cs => cs
  | (y, k) :: r, cs => clos cells r (if k == .free then (y, (cells.lookup y).getD 0) :: cs else cs)

theorem clos_eq {env : Env} {scope : Scope} (h : ∀ x ∈ scope.names, x.2 = .free → (env.cells.lookup x.1).isSome = true) : closureFor scope env = pure (clos env.cells scope.names []) := by
  simp only [closureFor]
  have go : ∀ (l : List (Str × NameKind)) (cs : List (Str × Addr)), (∀ x ∈ l, x.2 = .free → (env.cells.lookup x.1).isSome = true) →
      (forIn l cs fun x cs => if (x.2 == NameKind.free) = true then do let a ← cellOf env x.1; pure (ForInStep.yield ((x.1, a) :: cs)) else pure (ForInStep.yield cs) : Sem (List (Str × Addr))) = pure (clos env.cells l cs) := by
    intro l
    induction l with
    | nil => intro cs _; rfl
    | cons x l ih =>
      intro cs hl
      obtain ⟨y, k⟩ := x
      rw [List.forIn_cons, clos]
      cases hk : k == NameKind.free with
      | false => simp only [Bool.false_eq_true, if_false, pure_bind]; exact ih _ fun z hz => hl z (List.mem_cons_of_mem _ hz)
      | true =>
        obtain ⟨c, hc⟩ := Option.isSome_iff_exists.mp (hl (y, k) List.mem_cons_self (by simpa using hk))
        have e : cellOf env y = pure c := by unfold cellOf; rw [hc]
        simp only [if_true, e, pure_bind, hc, Option.getD_some]
        exact ih _ fun z hz => hl z (List.mem_cons_of_mem _ hz)
  have := go scope.names [] h
  first
    | exact this
    | (rw [← this]; rfl)
    | simpa using this

theorem mem_clos {cells : List (Str × Addr)} {y : Str} {c : Addr} : ∀ {l : List (Str × NameKind)} {cs : List (Str × Addr)}, (∀ x ∈ l, x.2 = .free → (cells.lookup x.1).isSome = true) → (y, c) ∈ clos cells l cs → (y, c) ∈ cs ∨ cells.lookup y = some c
  | [], cs, _, h => .inl h
  | (z, k) :: r, cs, hl, h => by
    rw [clos] at h
    rcases mem_clos (fun x hx => hl x (List.mem_cons_of_mem _ hx)) h with h | h
    · cases hk : k == NameKind.free with
      | false => rw [hk] at h; exact .inl h
      | true =>
        rw [hk] at h
        simp only [if_true] at h
        rcases List.mem_cons.mp h with h | h
        · cases h
          obtain ⟨c, hc⟩ := Option.isSome_iff_exists.mp (hl (y, k) List.mem_cons_self (by simpa using hk))
          rw [hc]; exact .inr rfl
        · exact .inl h
    · exact .inr h

theorem has_clos {cells : List (Str × Addr)} {y : Str} : ∀ {l : List (Str × NameKind)} {cs : List (Str × Addr)}, ((y, NameKind.free) ∈ l ∨ ∃ c, (y, c) ∈ cs) → ∃ c, (y, c) ∈ clos cells l cs
  | [], cs, h => by
    rcases h with h | h
    · cases h
    · exact h
  | (z, k) :: r, cs, h => by
    rw [clos]
    refine has_clos ?_
    rcases h with h | ⟨c, h⟩
    · rcases List.mem_cons.mp h with h | h
      · cases h; exact .inr ⟨_, List.mem_cons_self⟩
      · exact .inl h
    · right
      cases k == NameKind.free with
      | false => exact ⟨c, h⟩
      | true => exact ⟨c, List.mem_cons_of_mem _ h⟩

theorem lookup_has {α : Type} {y : Str} {c : α} : ∀ {l : List (Str × α)}, (y, c) ∈ l → ∃ c', l.lookup y = some c'
  | [], h => by cases h
  | (z, k) :: r, h => by
    rw [List.lookup_cons]
    cases hz : y == z with
    | true => exact ⟨_, rfl⟩
    | false =>
      rcases List.mem_cons.mp h with h | h
      · cases h; simp at hz
      · exact lookup_has h
end Mine

namespace Mine
open PySem PyProof.Rows PySem.Calls

theorem all_mem {α : Type} {p : α → Bool} {l : List α} (h : l.all p = true) {x : α} (hx : x ∈ l) : p x = true := List.all_eq_true.mp h x hx

/-- what the checker knows of a comprehension's scope -/
structure ScOk (sc : List (Str × NameKind)) (tbl : List (Str × Nat)) (nl : Nat) (csc : List (Str × NameKind)) (cx : Str) : Prop where
  loc : csc.lookup cx = some .local
  low : ∀ y i, tbl.lookup y = some i → i < nl
  nocell : ∀ y ∈ csc, y.2 ≠ .cell
  locs : ∀ y ∈ csc, y.2 = .local → csc.lookup y.1 = some .local ∧ (y.1 = cx ∨ tbl.lookup y.1 = none)
  free : ∀ y ∈ csc, y.2 = .free → sc.lookup y.1 = some .cell

theorem ScOk.of {sc : List (Str × NameKind)} {tbl : List (Str × Nat)} {nl : Nat} {csc : List (Str × NameKind)} {cx : Str} (h : scopeOk sc tbl nl csc cx = true) : ScOk sc tbl nl csc cx := by
  unfold scopeOk at h
  rw [Bool.and_eq_true, Bool.and_eq_true, lkS_eq] at h
  obtain ⟨⟨h1, h2⟩, h3⟩ := h
  refine ⟨isLoc_eq h1, fun y i e => by simpa using all_mem h2 (mem_of_lookup e), fun y hy hk => ?_, fun y hy hk => ?_, fun y hy hk => ?_⟩
  · have := all_mem h3 hy
    rw [hk] at this; cases this
  · have := all_mem h3 hy
    rw [hk] at this
    simp only [Bool.and_eq_true, Bool.or_eq_true, lkS_eq] at this
    exact ⟨isLoc_eq this.1, this.2.elim (fun q => .inl (eqS_iff.mp q)) fun q => .inr (by simpa using q)⟩
  · have := all_mem h3 hy
    rw [hk] at this
    simp only [lkS_eq] at this
    exact isCel_eq this

theorem relabel_eq {env : Env} {scope : Scope} (hk : env.scope.kind = .function) (hf : ∀ y ∈ scope.names, y.2 = .free → env.scope.names.lookup y.1 = some .cell) : (relabel scope env).names = relab scope.names := by
  unfold relabel relab
  refine List.map_congr_left fun y hy => ?_
  obtain ⟨n, k⟩ := y
  cases k <;> try rfl
  have e : env.kindOf n = some .cell := hf _ hy rfl
  simp [hk, e, isFree]

theorem mem_relab {csc : List (Str × NameKind)} {y : Str} {k : NameKind} (h : (y, k) ∈ relab csc) : (k = .cell ∧ (y, NameKind.free) ∈ csc) ∨ ((y, k) ∈ csc ∧ k ≠ .free) := by
  unfold relab at h
  obtain ⟨z, hz, e⟩ := List.mem_map.mp h
  obtain ⟨n, k'⟩ := z
  cases k' <;> simp [isFree] at e <;> obtain ⟨rfl, rfl⟩ := e
  all_goals first
    | exact .inl ⟨rfl, hz⟩
    | exact .inr ⟨hz, by intro x; cases x⟩

theorem getV_snoc {Γ : Fm} {x v : V} (h : getV (Γ ++ [x]) Γ.length = some v) : v = x := by
  unfold getV at h
  rw [List.getElem?_concat_length] at h
  split at h
  · cases h
  · exact (Option.some.inj h).symm
theorem getV_snoc_lt {Γ : Fm} {x v : V} {i : Nat} (hi : i < Γ.length) (h : getV (Γ ++ [x]) i = some v) : getV Γ i = some v := by
  unfold getV at h ⊢
  rw [List.getElem?_append_left hi] at h
  exact h

section
variable {B : Bs} {σ : Sg} {φ : List Addr} {h : Heap} {tbl : List (Str × Nat)} {env : Env} {Γ : Fm} {scope : Scope} {K : Addr} {m : Str → Option Value} {cx : Str} {x : V} {cv : Value}

theorem FR.comp (F : FR B tbl env Γ σ φ h) (O : ScOk env.scope.names tbl Γ.length scope.names cx) (hk : scope.kind = .function) (hn : h.Ns K m) (hm : m cx = some cv) (r : VR B σ φ h x cv) (nl : ¬ live σ φ K) (hb : B.hb.get? K = none) :
    FR B ((cx, Γ.length) :: tbl) (compEnvC scope (clos env.cells scope.names []) K env) (Γ ++ [x]) σ φ h := by
  have hfree : ∀ y ∈ scope.names, y.2 = .free → (env.cells.lookup y.1).isSome = true := fun y hy e => F.has y.1 (O.free y hy e)
  have hnm : (relabel scope env).names = relab scope.names := relabel_eq F.kind O.free
  have hcl : ∀ y c, (y, c) ∈ clos env.cells scope.names [] → env.cells.lookup y = some c := fun y c hc => (mem_clos hfree hc).elim (fun x => by cases x) id
  have hlk : ∀ y, (y, NameKind.free) ∈ scope.names → (clos env.cells scope.names []).lookup y = env.cells.lookup y := fun y hy => by
    obtain ⟨c, hc⟩ := has_clos (cells := env.cells) (l := scope.names) (cs := []) (.inl hy)
    obtain ⟨c', hc'⟩ := lookup_has hc
    rw [hc', hcl y c' (mem_of_lookup hc')]
  have kind : ∀ y k, (compEnvC scope (clos env.cells scope.names []) K env).kindOf y = some k → (k = .cell ∧ (y, NameKind.free) ∈ scope.names) ∨ ((y, k) ∈ scope.names ∧ k ≠ .free) := by
    intro y k e
    have e : (relabel scope env).names.lookup y = some k := e
    rw [hnm] at e
    exact mem_relab (mem_of_lookup e)
  have cellF : ∀ y, (compEnvC scope (clos env.cells scope.names []) K env).kindOf y = some .cell → (y, NameKind.free) ∈ scope.names := fun y e => by
    rcases kind y _ e with ⟨_, h⟩ | ⟨h, _⟩
    · exact h
    · exact (O.nocell _ h rfl).elim
  have tl : ∀ y i, y ≠ cx → ((cx, Γ.length) :: tbl).lookup y = some i → tbl.lookup y = some i := fun y i hy e => by
    rw [List.lookup_cons] at e
    have : (y == cx) = false := by simpa using hy
    rw [this] at e; exact e
  refine ⟨hk, F.gl, F.bi, ⟨m, hn, fun y i v e1 e2 e3 => ?_⟩, fun y i v e1 e2 e3 => ?_, nl, fun y c hc => ?_, hb, fun y c hc => ?_, fun y e => ?_⟩
  · by_cases hy : y = cx
    · subst hy
      rw [List.lookup_cons] at e1
      simp at e1
      subst e1
      rw [getV_snoc e2]
      exact ⟨cv, hm, r⟩
    · rcases kind y _ e3 with ⟨h, _⟩ | ⟨h, _⟩
      · cases h
      · rcases (O.locs _ h rfl).2 with q | q
        · exact (hy q).elim
        · rw [tl y i hy e1] at q; cases q
  · have hfr : (y, NameKind.free) ∈ scope.names := by
      rcases e3 with e3 | e3
      · exact cellF y e3
      · rcases kind y _ e3 with ⟨h, _⟩ | ⟨_, h⟩
        · cases h
        · exact (h rfl).elim
    have hy : y ≠ cx := fun q => by
      subst q
      have h1 := F.kind
      rcases e3 with e3 | e3 <;> (have e3 : (relabel scope env).names.lookup y = some _ := e3) <;> (have := lookup_relabel_local (env := env) O.loc) <;> (rw [show (relabel scope env).names.lookup y = some .local from this] at e3) <;> cases e3
    have e1' := tl y i hy e1
    obtain ⟨c, cu, k1, k2, k3⟩ := F.cell y i v e1' (getV_snoc_lt (O.low y i e1') e2) (.inl (O.free _ hfr rfl))
    exact ⟨c, cu, (hlk y hfr).trans k1, k2, k3⟩
  · exact F.cells y c (mem_of_lookup (hcl y c hc))
  · exact F.newC y c (mem_of_lookup (hcl y c hc))
  · show ((clos env.cells scope.names []).lookup y).isSome = true
    rw [hlk y (cellF y e)]
    exact F.has y (O.free _ (cellF y e) rfl)
end

noncomputable def SF (C : Cx) (d n : Nat) : Prop := ∀ (ifs : List Expr) (x : Option Ex) (env : Env) (tbl : List (Str × Nat)) (Γ : Fm) (σ : Sg) (t : Bool) (σ' : Sg) (A : Around) (s : Shared) (φ : List Addr) (E : Value → Shared → Prop),
  chkIf C.N n env.scope.names tbl Γ.length ifs x = true → evT C.gl (callF C.gl C.P d) x Γ σ = .ok t σ' → Room d A → SR C.B σ φ s.heap → FR C.B tbl env Γ σ φ s.heap →
  wpAny C.M A (forIn ifs true fun c r => if r = true then do let ok ← isTrue c env (eval c env); pure (ForInStep.yield ok) else pure (ForInStep.yield r)) (fun b s' => b = t ∧ PostU C.B s σ φ σ' s') E s

theorem sF_succ {C : Cx} {d n : Nat} (hT : ST C d n) : SF C d (n + 1) := by
  intro ifs x env tbl Γ σ t σ' A s φ E hc he hr R F
  cases x with
  | none =>
    rw [nilL_eq (show nilL ifs = true from hc)]
    cases he
    exact wpAny_pure ⟨rfl, φ, s.heap, s.toks, rfl, R, .refl⟩
  | some x =>
    replace hc := on_1 (show on1 ifs (fun e => tstOk e x && chkE C.N n env.scope.names tbl Γ.length e x) = true from hc)
    obtain ⟨e, rfl, hc⟩ := hc
    replace hc := both hc
    obtain ⟨hts, hc⟩ := hc
    rw [evT_some] at he
    obtain ⟨v, σ₁, h1, he⟩ := bind_eq_ok he
    obtain ⟨h2, e2⟩ := of_eq_ok he
    subst e2
    rw [List.forIn_cons]
    simp only [if_true]
    refine wpAny_bind (wpAny_bind (wpAny_mono (hT e x env tbl Γ σ v t _ A s φ E hts hc h1 h2 hr R F) (fun b s' hb => wpAny_pure (wpAny_pure hb)) fun _ _ e => e))

theorem compGo_len {test : Fm → Sg → Res Bool} {elt : Fm → Sg → Res V} {Γ : Fm} : ∀ {items acc : List V} {σ : Sg} {vs : List V} {σ' : Sg}, compGo test elt Γ items acc σ = .ok vs σ' → acc.length ≤ vs.length
  | [], acc, σ, vs, σ', h => by cases h; exact Nat.le_refl _
  | x :: r, acc, σ, vs, σ', h => by
    rw [compGo_cons] at h
    obtain ⟨b, σ₁, h1, h⟩ := bind_eq_ok h
    cases b with
    | false => exact compGo_len h
    | true =>
      obtain ⟨v, σ₂, h2, h⟩ := bind_eq_ok h
      have := compGo_len h
      rw [List.length_append] at this
      exact Nat.le_trans (Nat.le_add_right _ _) this
end Mine

namespace Mine
open PySem PyProof.Rows PySem.Calls

section
variable {C : Cx} {d n : Nat} {A : Around} {tbl : List (Str × Nat)} {env : Env} {Γ : Fm} {scope : Scope} {cx : Str}

/-- what a comprehension's loop keeps -/
inductive CoInv (C : Cx) (d : Nat) (elt : Ex) (cond : Option Ex) (Γ : Fm) (items : List V) (I K D : Addr) (N : Nat) (St : Nat → Heap → Prop) (s : Shared) (σ₁ : Sg) (φ₁ : List Addr) (vs : List V) (σ' : Sg) (k : Nat) : Shared → Prop
  | mk (H : Heap) (tk : Nat) (σk : Sg) (φk : List Addr) (acc : List V) (ys : List Value) (m' : Str → Option Value) (j : Nat) : SR C.B σk φk H → Stp (fun b => b = I ∨ b = K ∨ b = D) σ₁ φ₁ s.heap σk φk H → St j H → H.PlainList D (List.toArray ys) → H.Ns K m' →
    VRs C.B σk φk H acc ys → compGo (evT C.gl (callF C.gl C.P d) cond) (evE C.gl (callF C.gl C.P d) elt) Γ (items.drop j) acc σk = .ok vs σ' → j ≤ N → k = N + 1 - j → CoInv C d elt cond Γ items I K D N St s σ₁ φ₁ vs σ' k { s with heap := H, toks := tk }

theorem comp_loop (hE : SE C d n) (hF : SF C d n) (hr : Room d A) {ee iter : Expr} {ifs : List Expr} {elt : Ex} {cond : Option Ex} {px pos : Pos} {RR : Result → Shared → Prop} {s : Shared} {σ₁ : Sg} {φ₁ : List Addr}
    {items : List V} {I K D : Addr} {fp wr : List Addr} {N : Nat} {P : Nat → Value → Prop} {St : Nat → Heap → Prop} {vs : List V} {σ' : Sg} {m : Str → Option Value}
    (O : ScOk env.scope.names tbl Γ.length scope.names cx) (hk : scope.kind = .function) (F : FR C.B tbl env Γ σ₁ φ₁ s.heap) (R : SR C.B σ₁ φ₁ s.heap) (It : Iter C.B A σ₁ φ₁ s.heap items I fp wr N P St)
    (c1 : chkE C.N n (relab scope.names) ((cx, Γ.length) :: tbl) (Γ.length + 1) ee elt = true) (c2 : chkIf C.N n (relab scope.names) ((cx, Γ.length) :: tbl) (Γ.length + 1) ifs cond = true)
    (hgo : compGo (evT C.gl (callF C.gl C.P d) cond) (evE C.gl (callF C.gl C.P d) elt) Γ items [] σ₁ = .ok vs σ') (hlen : vs.length ≤ roomy)
    (hav : C.B.av D) (hD : s.heap.PlainList D #[]) (hK : s.heap.Ns K m) (hbI : C.B.hb.get? I = none) (hbK : C.B.hb.get? K = none) (hbD : C.B.hb.get? D = none)
    (hDK : D ≠ K) (hDf : D ∉ fp) (hKf : K ∉ fp) (hDI : D ≠ I) (hKI : K ≠ I) (hown : ∀ b, own env b → b ≠ I ∧ b ≠ K ∧ b ≠ D) (hIm : I ≠ mainGlobals) (hIv : ¬ C.B.av I) {hB : Heap} {σB : Sg} {φB : List Addr} (hlB : φB.length = σB.length) (SB : Stp W0 σB φB hB σ₁ φ₁ s.heap) (hBn : ∀ b, (b = I ∨ b = K ∨ b = D) → hB.get? b = none) (nK : K ∉ φ₁) (nlD : ¬ live σ₁ φ₁ D)
    (hRR : ∀ H tk φ' ys m', SR C.B σ' φ' H → Stp W0 σB φB hB σ' φ' H → K ∉ φ' → H.PlainList D (List.toArray ys) → H.Ns K m' → VRs C.B σ' φ' H vs ys → RR (.ok .next) { s with heap := H, toks := tk }) :
    codeAny C.M A (.compLoop (.ListComp ee [⟨.Name cx px, iter, ifs, 0⟩] scope pos) 0 (.ref I) (.ref D) (compEnvC scope (clos env.cells scope.names []) K env)) RR s := by
  have hnm : (compEnvC scope (clos env.cells scope.names []) K env).scope.names = relab scope.names := relabel_eq F.kind O.free
  obtain ⟨W, eN, st0, hwr, hfix, hself, hnlf, hnI, hval⟩ := It
  have nlI : ¬ live σ₁ φ₁ I := fun L => hnI L.mem
  have nlK : ¬ live σ₁ φ₁ K := fun L => nK L.mem
  refine codeAny_compLoop_tests (CoInv C d elt cond Γ items I K D N St s σ₁ φ₁ vs σ') ?_ (N + 1) (.mk s.heap s.toks σ₁ φ₁ [] [] m 0 R .refl st0 hD hK .nil hgo (Nat.zero_le _) rfl)
  intro k s' J
  cases J with
  | mk H tk σk φk acc ys m' j Rk Sk stk hDk hKk rk hgk hj hkj =>
  subst hkj
  have apart0 : Apart C.B (fun b => b = I ∨ b = K ∨ b = D) s.heap := by
    rintro b (rfl | rfl | rfl) o ho
    · obtain ⟨o', e1, ⟨fs, e2⟩, T, e3⟩ := hself 0 _ st0
      rw [ho] at e1; cases e1
      exact .inr ⟨fun xs n e => (by rw [e2] at e; cases e), fun fs' e C' e' => (by rw [e3] at e'; cases e')⟩
    · exact Apart.ns hK b rfl o ho
    · obtain ⟨k, e⟩ := hD
      rw [ho] at e; cases e
      exact .inl ⟨hav, rfl⟩
  have notlive : ∀ {σx : Sg} {φx : List Addr} {hx : Heap}, Stp (fun b => b = I ∨ b = K ∨ b = D) σ₁ φ₁ s.heap σx φx hx → ∀ b o, s.heap.get? b = some o → ¬ live σ₁ φ₁ b → ¬ live σx φx b := by
    intro σx φx hx S b o e nl L
    rcases S.live R.len L with x | x
    · exact nl x
    · rw [e] at x; cases x
  have exK : ∃ o, s.heap.get? K = some o := by obtain ⟨o, _, _, e, _⟩ := hK; exact ⟨o, e⟩
  have exD : ∃ o, s.heap.get? D = some o := by obtain ⟨k, e⟩ := hD; exact ⟨_, e⟩
  have exI : ∃ o, s.heap.get? I = some o := by obtain ⟨o, e, _⟩ := hself 0 _ st0; exact ⟨_, e⟩
  have stI : ∀ {h₁ : Heap} {tk₁ : Nat}, (∀ b o, b ∉ wr → H.get? b = some o → h₁.get? b = some o) → (∃ o, h₁.get? I = some o) → SR C.B σk φk h₁ ∧ Stp (· = I) σk φk H σk φk h₁ := by
    intro h₁ tk₁ hk₁ hx
    refine Rk.one hbI ?_ (let ⟨o, e⟩ := exI; notlive Sk I o e nlI) (fun b o hb e => hk₁ b o (fun hw => hb (hwr b hw)) e) hx
    rintro b rfl o ho
    obtain ⟨o', e1, ⟨fs, e2⟩, T, e3⟩ := hself j _ stk
    rw [ho] at e1; cases e1
    exact .inr ⟨fun xs n e => (by rw [e2] at e; cases e), fun fs' e C' e' => (by rw [e3] at e'; cases e')⟩
  have apI : Apart C.B (· = I) H := by
    rintro b rfl o ho
    obtain ⟨o', e1, ⟨fs, e2⟩, T, e3⟩ := hself j _ stk
    rw [ho] at e1; cases e1
    exact .inr ⟨fun xs n e => (by rw [e2] at e; cases e), fun fs' e C' e' => (by rw [e3] at e'; cases e')⟩
  have hKw : K ∉ wr := fun h => hKI (hwr K h)
  have hDw : D ∉ wr := fun h => hDI (hwr D h)
  by_cases hlt : j < N
  · refine W.item j _ _ _ hlt stk fun v h₁ tk₁ hPv hst₁ hk₁ => ?_
    obtain ⟨x, ex, rx⟩ := hval j v hPv
    obtain ⟨R₁, S₁⟩ := stI (tk₁ := tk₁) hk₁ (let ⟨o, e, _⟩ := hself (j + 1) _ hst₁; ⟨o, e⟩)
    have hK₁ : h₁.Ns K m' := hKk.at' fun o e => hk₁ _ o hKw e
    refine wpAny_assign_Name (wpAny_storeName_local (lookup_relabel_local O.loc) hK₁ (fun h₂ hn₂ hs₂ => ?_) (by simp [compEnvC, relabel, hk]))
    have hn₂ : h₂.Ns K _ := hn₂
    have hs₂ : Heap.SameBut K h₁ h₂ := hs₂
    have nlKk : ¬ live σk φk K := let ⟨o, e⟩ := exK; notlive Sk K o e nlK
    have nlDk : ¬ live σk φk D := let ⟨o, e⟩ := exD; notlive Sk D o e nlD
    obtain ⟨R₂, S₂⟩ := R₁.one hbK (Apart.ns hK₁) nlKk (fun b o hb e => hs₂.extBut b o hb e) (let ⟨o, _, _, e, _⟩ := hn₂; ⟨o, e⟩)
    have T₁ : Stp (fun b => b = I ∨ b = K ∨ b = D) σ₁ φ₁ s.heap σk φk h₁ := Sk.trans (S₁.weaken fun b hb => .inl hb) R.len
    have T₂ : Stp (fun b => b = I ∨ b = K ∨ b = D) σ₁ φ₁ s.heap σk φk h₂ := T₁.trans (S₂.weaken fun b hb => .inr (.inl hb)) R.len
    have F₂ : FR C.B tbl env Γ σk φk h₂ := F.mono R T₂ apart0 (fun hb => by
      obtain ⟨a, b, c⟩ := hown env.locals (.inl rfl)
      rcases hb with hb | hb | hb
      · exact a hb
      · exact b hb
      · exact c hb) fun y c hc hb => by
      obtain ⟨a, b, c⟩ := hown c (.inr ⟨y, hc⟩)
      rcases hb with hb | hb | hb
      · exact a hb
      · exact b hb
      · exact c hb
    have rx₂ : VR C.B σk φk h₂ x v := rx.mono R T₂ apart0
    have FC₂ := F₂.comp O hk hn₂ (by simp) rx₂ nlKk hbK
    have st₂ : St (j + 1) h₂ := W.frame _ _ _ hst₁ fun b hb o e => hs₂.extBut b o (fun q => hKf (q ▸ hb)) e
    have rk₁ := rk.mono Rk S₁ apI
    have rk₂ := rk₁.mono R₁ S₂ (Apart.ns hK₁)
    have hdrop : items.drop j = x :: items.drop (j + 1) := by
      have hjl : j < items.length := by rw [← eN]; exact hlt
      rw [List.drop_eq_getElem_cons hjl]
      rw [List.getElem?_eq_getElem hjl] at ex
      rw [Option.some.inj ex]
    rw [hdrop] at hgk
    rw [compGo_cons] at hgk
    obtain ⟨t, σ₃, g1, hgk⟩ := bind_eq_ok hgk
    refine wpAny_mono (hF ifs cond _ _ (Γ ++ [x]) σk t σ₃ A _ φk _ (by rw [hnm, List.length_append]; exact c2) g1 hr R₂ FC₂) (fun ok s₃ h₃ => ?_) fun _ _ e => e
    obtain ⟨rfl, φ₃, h₃, tk₃, rfl, R₃, S₃⟩ := h₃
    have T₃ : Stp (fun b => b = I ∨ b = K ∨ b = D) σ₁ φ₁ s.heap σ₃ φ₃ h₃ := T₂.trans (S₃.weaken fun _ hb => hb.elim) R.len
    have st₃ : St (j + 1) h₃ := W.frame _ _ _ st₂ fun b hb o e => S₃.keep b o e (let ⟨o', e', _⟩ := hfix 0 _ st0 b hb; notlive T₂ b o' e' (hnlf b hb)) fun x => x
    have hD₂ : h₂.PlainList D ys.toArray := by
      obtain ⟨k, e⟩ := hDk
      exact ⟨k, hs₂.extBut _ _ hDK (hk₁ _ _ hDw e)⟩
    have hD₃ : h₃.PlainList D ys.toArray := by
      obtain ⟨k, e⟩ := hD₂
      exact ⟨k, S₃.keep _ _ e nlDk fun x => x⟩
    have hK₃ : h₃.Ns K (fun y => if y = cx then some v else m' y) := hn₂.at' fun o e => S₃.keep _ _ e nlKk fun x => x
    have rk₃ := rk₂.mono R₂ S₃ Apart.none
    cases ok with
    | false =>
      simp only [Bool.false_eq_true, if_false]
      exact ⟨N + 1 - (j + 1), Nat.sub_lt_sub_left (Nat.lt_succ_of_lt hlt) (Nat.lt_succ_self j), .mk h₃ tk₃ σ₃ φ₃ acc ys _ (j + 1) R₃ T₃ st₃ hD₃ hK₃ rk₃ hgk hlt rfl⟩
    | true =>
      simp only [if_true]
      obtain ⟨u, σ₄, g2, hgk⟩ := bind_eq_ok hgk
      have nlK₃ : ¬ live σ₃ φ₃ K := let ⟨o, e⟩ := exK; notlive T₃ K o e nlK
      have nlD₃ : ¬ live σ₃ φ₃ D := let ⟨o, e⟩ := exD; notlive T₃ D o e nlD
      have FC₃ := FC₂.mono0 R₂ S₃
      refine post_mono (s := { s with heap := h₃, toks := tk₃ }) (hE ee elt _ _ (Γ ++ [x]) σ₃ u σ₄ A _ φ₃ _ (by rw [hnm, List.length_append]; exact c1) g2 hr R₃ FC₃) fun cv φ₄ h₄ tk₄ R₄ S₄ r₄ => ?_
      have T₄ : Stp (fun b => b = I ∨ b = K ∨ b = D) σ₁ φ₁ s.heap σ₄ φ₄ h₄ := T₃.trans (S₄.weaken fun _ hb => hb.elim) R.len
      have st₄ : St (j + 1) h₄ := W.frame _ _ _ st₃ fun b hb o e => S₄.keep b o e (let ⟨o', e', _⟩ := hfix 0 _ st0 b hb; notlive T₃ b o' e' (hnlf b hb)) fun x => x
      have hD₄ : h₄.PlainList D ys.toArray := by
        obtain ⟨k, e⟩ := hD₃
        exact ⟨k, S₄.keep _ _ e nlD₃ fun x => x⟩
      have hK₄ : h₄.Ns K (fun y => if y = cx then some v else m' y) := hK₃.at' fun o e => S₄.keep _ _ e nlK₃ fun x => x
      have rk₄ := rk₃.mono R₃ S₄ Apart.none
      have nlD₄ : ¬ live σ₄ φ₄ D := let ⟨o, e⟩ := exD; notlive T₄ D o e nlD
      refine wpAny_list_append_plain (s := { s with heap := h₄, toks := tk₄ }) hD₄ (fun h₅ hl₅ hs₅ => ?_) ?_
      · have hs₅ : Heap.SameBut D h₄ h₅ := hs₅
        have ap₄ : Apart C.B (· = D) h₄ := by
          rintro b rfl o ho
          obtain ⟨k, e⟩ := hD₄
          rw [ho] at e; cases e
          exact .inl ⟨hav, rfl⟩
        obtain ⟨R₅, S₅⟩ := R₄.one hbD ap₄ nlD₄ (fun b o hb e => hs₅.extBut b o hb e) (let ⟨k, e⟩ := hl₅; ⟨_, e⟩)
        have e5 : (ys.toArray.push cv) = (ys ++ [cv]).toArray := by simp
        rw [e5] at hl₅
        refine ⟨N + 1 - (j + 1), Nat.sub_lt_sub_left (Nat.lt_succ_of_lt hlt) (Nat.lt_succ_self j), .mk h₅ tk₄ σ₄ φ₄ (acc ++ [u]) (ys ++ [cv]) _ (j + 1) R₅ (T₄.trans (S₅.weaken fun b hb => .inr (.inr hb)) R.len) ?_ hl₅ (hK₄.sameBut hs₅ (Ne.symm hDK)) ((rk₄.append (.cons r₄ .nil)).mono R₄ S₅ ap₄) hgk hlt rfl⟩
        exact W.frame _ _ _ st₄ fun b hb o e => hs₅.extBut b o (fun q => hDf (q ▸ hb)) e
      · have := compGo_len hgk
        rw [List.length_append, List.length_singleton] at this
        have e := rk.length
        rw [List.size_toArray, e, ← roomy_eq]
        omega
  · have hjn : j = N := Nat.le_antisymm hj (Nat.le_of_not_lt hlt)
    subst hjn
    have hd : items.drop j = [] := List.drop_eq_nil_of_le (Nat.le_of_eq eN.symm)
    rw [hd] at hgk
    cases hgk
    refine W.done _ _ _ stk fun h₁ tk₁ hk₁ => ?_
    have hk₁' : ∀ b o, b ≠ I → H.get? b = some o → h₁.get? b = some o := fun b o hb e => hk₁ b o (fun hw => hb (hwr b hw)) e
    have S0 : Stp W0 σB φB hB σ' φk H := (Stp.trans (W := fun b => b = I ∨ b = K ∨ b = D) (SB.weaken fun _ x => x.elim) Sk hlB).drop hBn
    have nBI : ∀ b o, hB.get? b = some o → b ≠ I := fun b o e q => by rw [hBn b (.inl q)] at e; cases e
    have notin : ∀ b o, b ∉ φ₁ → s.heap.get? b = some o → b ∉ φk := fun b o hb e hm => by
      obtain ⟨i, hi⟩ := List.getElem?_of_mem hm
      by_cases hlt : i < φ₁.length
      · have e4 := Sk.pre i φ₁[i] (List.getElem?_eq_getElem hlt)
        rw [hi] at e4
        exact hb (Option.some.inj e4 ▸ List.getElem_mem hlt)
      · have := Sk.new i b (Nat.le_of_not_lt hlt) hi
        rw [e] at this; cases this
    have hnk : I ∉ φk := let ⟨o, e⟩ := exI; notin I o hnI e
    refine hRR h₁ tk₁ φk ys m' (Rk.lose hbI apI hnk hIm hIv hk₁') ⟨S0.pre, S0.new, S0.dead, fun b o e hl hw => hk₁' b o (nBI b o e) (S0.keep b o e hl hw), fun b o e => ?_⟩ (let ⟨o, e⟩ := exK; notin K o nK e) ?_ (hKk.at' fun o e => hk₁ _ o hKw e) (rk.monoq Rk (Stq.one hk₁') apI)
    · obtain ⟨o', e'⟩ := S0.ex b o e
      exact ⟨o', hk₁' b o' (nBI b o e) e'⟩
    · obtain ⟨k, e⟩ := hDk
      exact ⟨k, hk₁ _ _ hDw e⟩
end
end Mine

namespace Mine
open PySem PyProof.Rows PySem.Calls

theorem Stp.lose {σ σ' : Sg} {φ φ' : List Addr} {h h' h'' : Heap} {K : Addr} {W : Addr → Prop} (S : Stp W σ φ h σ' φ' h') (hK : h.get? K = none) (hk : ∀ b o, b ≠ K → h'.get? b = some o → h''.get? b = some o) : Stp W σ φ h σ' φ' h'' := by
  have nK : ∀ b o, h.get? b = some o → b ≠ K := fun b o e q => by rw [q, hK] at e; cases e
  exact ⟨S.pre, S.new, S.dead, fun b o e hl hw => hk b o (nK b o e) (S.keep b o e hl hw), fun b o e => let ⟨o', e'⟩ := S.ex b o e; ⟨o', hk b o' (nK b o e) e'⟩⟩
theorem SR.newK {B : Bs} {σ : Sg} {φ : List Addr} {h : Heap} {K : Addr} (R : SR B σ φ h) (sK : h.get? K = none) : B.hb.get? K = none ∧ K ≠ mainGlobals ∧ ¬ B.av K := by
  refine ⟨?_, fun q => ?_, fun q => ?_⟩
  · cases e' : B.hb.get? K with
    | none => rfl
    | some o => rw [R.based K o e'] at sK; cases sK
  · obtain ⟨o, e⟩ := R.main; rw [q, e] at sK; cases sK
  · obtain ⟨o, e⟩ := R.avx K q; rw [e] at sK; cases sK

theorem chkI_set {N : Nm} {n : Nat} {sc : List (Str × NameKind)} {tbl : List (Str × Nat)} {nl : Nat} {e : Expr} {ik : IK} {a b : Ex} (h : chkI N n sc tbl nl e ik a b = true) : setOk e = true := by
  cases n with
  | zero => exact no_true h
  | succ n => cases ik <;> exact (both (show (setOk e && _) = true from h)).1

theorem chk_comp {N : Nm} {n : Nat} {sc : List (Str × NameKind)} {tbl : List (Str × Nat)} {nl : Nat} {e : Expr} {m : Bool} {elt : Ex} {ik : IK} {a b : Ex} {cond : Option Ex} (hc : chkE N (n + 1) sc tbl nl e (.comp m elt ik a b cond) = true) :
    ∃ ee cx px iter ifs csc pos, e = .ListComp ee [⟨.Name cx px, iter, ifs, 0⟩] csc pos ∧ csc.kind = .function ∧ scopeOk sc tbl nl csc.names cx = true ∧ chkI N n sc tbl nl iter ik a b = true ∧
      chkE N n (relab csc.names) ((cx, nl) :: tbl) (nl + 1) ee elt = true ∧ chkIf N n (relab csc.names) ((cx, nl) :: tbl) (nl + 1) ifs cond = true := by
  replace hc := on_comp (show onComp e (fun ee gs csc => on1 gs fun g => onName g.target fun cx =>
        g.is_async == 0 && (isFn csc.kind && (scopeOk sc tbl nl csc.names cx && (chkI N n sc tbl nl g.iter ik a b &&
          (chkE N n (relab csc.names) ((cx, nl) :: tbl) (nl + 1) ee elt && chkIf N n (relab csc.names) ((cx, nl) :: tbl) (nl + 1) g.ifs cond))))) = true from hc)
  obtain ⟨ee, gs, csc, pos, rfl, hc⟩ := hc
  replace hc := on_1 hc
  obtain ⟨g, rfl, hc⟩ := hc
  obtain ⟨tg, iter, ifs, asy⟩ := g
  replace hc := on_name hc
  obtain ⟨cx, px, e1, hc⟩ := hc
  replace e1 : tg = .Name cx px := e1
  subst e1
  replace hc := both hc
  obtain ⟨q1, hc⟩ := hc
  replace hc := both hc
  obtain ⟨q2, hc⟩ := hc
  replace hc := both hc
  obtain ⟨q3, hc⟩ := hc
  replace hc := both hc
  obtain ⟨q4, hc⟩ := hc
  replace hc := both hc
  obtain ⟨q5, q6⟩ := hc
  have e1 : asy = 0 := beq_iff_eq.mp q1
  subst e1
  exact ⟨ee, cx, px, iter, ifs, csc, pos, rfl, isFn_eq q2, q3, q4, q5, q6⟩

section
variable {C : Cx} {d n : Nat} {A : Around} {E : Value → Shared → Prop} {tbl : List (Str × Nat)} {env : Env} {Γ : Fm} {scope : Scope} {cx : Str} {s : Shared} {σ σ' : Sg} {φ : List Addr} {v : V}

theorem comp_core (hI : SI C d n) (hE : ∀ D, SE (C.wav D) d n) (hF : ∀ D, SF (C.wav D) d n) (hr : Room d A) {ee iter : Expr} {ifs : List Expr} {elt a b : Ex} {ik : IK} {mm : Bool} {cond : Option Ex} {px pos p2 : Pos}
    {use : Option (Value → Sem Unit)} {Q : Value → Shared → Prop}
    (q2 : scope.kind = .function) (O : ScOk env.scope.names tbl Γ.length scope.names cx) (c0 : chkI C.N n env.scope.names tbl Γ.length iter ik a b = true)
    (c1 : chkE C.N n (relab scope.names) ((cx, Γ.length) :: tbl) (Γ.length + 1) ee elt = true) (c2 : chkIf C.N n (relab scope.names) ((cx, Γ.length) :: tbl) (Γ.length + 1) ifs cond = true)
    (he : evE C.gl (callF C.gl C.P d) (.comp mm elt ik a b cond) Γ σ = .ok v σ') (R : SR C.B σ φ s.heap) (F : FR C.B tbl env Γ σ φ s.heap)
    (hfin : ∀ D K φ' h' tk m', SR C.B σ' φ' h' → Stp W0 σ φ s.heap σ' φ' h' → VR C.B σ' φ' h' v (.ref D) → h'.Ns K m' → K ∉ φ' → s.heap.get? K = none → compPost C.M A E use Q (.ref D) K (.ok .next) { s with heap := h', toks := tk }) :
    wpAny C.M A (comprehension (.ListComp ee [⟨.Name cx px, iter, ifs, 0⟩] scope pos) scope env p2 (newList []) false (eval iter env) use) Q E s := by
  rw [evE_comp0] at he
  obtain ⟨xv, σ₁, h1, he⟩ := bind_eq_ok he
  obtain ⟨yv, σ₂, h2, he⟩ := bind_eq_ok he
  obtain ⟨items, h3, he⟩ := bind_of_ok he
  obtain ⟨vs, σ₃, h4, he⟩ := bind_eq_ok he
  have hfree : ∀ y ∈ scope.names, y.2 = .free → (env.cells.lookup y.1).isSome = true := fun y hy e => F.has y.1 (O.free y hy e)
  refine wpAny_comprehension_free (use := use) rfl (fun x => folded_of (chkI_set c0) x) (clos_eq hfree) q2 (fun y hy e => (O.locs y hy e).1) ?_
  refine wpAny_mono (hI iter ik a b env tbl Γ σ xv σ₁ yv σ₂ items A s φ E c0 h1 h2 h3 hr R F) (fun cv s₁ Pi => ?_) fun _ _ e => e
  obtain ⟨φ₁, h₁, tk₁, rfl, R₁, S₁, iv⟩ := Pi
  refine wpAny_mono (op_iter (h₀ := s.heap) iv hr.hh R₁ S₁.ex) (fun it s₂ P₂ => ?_) fun _ _ e => e
  obtain ⟨I, h₂, tk₂, fp, wr, N, P, St, rfl, rfl, hk₂, hI0, It⟩ := P₂
  refine wpAny_newObj_type (wpAny_newFunctionEnv O.nocell (by intro y hy; simp at hy) (fun h₃ hns₃ hsb₃ => ?_) q2)
  have hk₂ : ∀ b o, h₁.get? b = some o → h₂.get? b = some o := hk₂
  dsimp only at hns₃ hsb₃ ⊢
  generalize hH2 : h₂.push { cls := .type "list", dict := none, data := .seq ([] : List Value).toArray } = H2 at hns₃ hsb₃ ⊢
  have hC : H2.objs.size = h₂.objs.size + 1 := by rw [← hH2, Heap.size_push]
  have hDK : h₂.objs.size ≠ H2.objs.size := by rw [hC]; exact Nat.ne_of_lt (Nat.lt_succ_self _)
  have below : ∀ b, b < h₂.objs.size → b ≠ H2.objs.size ∧ b ≠ h₂.objs.size := fun b hb => ⟨by rw [hC]; exact Nat.ne_of_lt (Nat.lt_succ_of_lt hb), Nat.ne_of_lt hb⟩
  have old : ∀ b o, h₂.get? b = some o → h₃.get? b = some o := fun b o e => hsb₃.extBut b o (below b (Heap.lt_size e)).1 (Heap.get?_push_of_some _ (hH2 ▸ Heap.get?_push_of_some _ e))
  have hacc : h₃.PlainList h₂.objs.size #[] := ⟨_, hsb₃.extBut _ _ hDK (Heap.get?_push_of_some _ (hH2 ▸ Heap.get?_push_size _ rfl))⟩
  have hns₃ : h₃.Ns H2.objs.size _ := hns₃
  have gone : ∀ {hx : Heap} {b : Addr}, (∀ c o, hx.get? c = some o → ∃ o', h₂.get? c = some o') → h₂.objs.size ≤ b → hx.get? b = none := fun {hx b} hh hb => by
    cases e : hx.get? b with
    | none => rfl
    | some o => obtain ⟨o', e'⟩ := hh b o e; exact absurd (Heap.lt_size e') (Nat.not_lt.mpr hb)
  have sub2 : ∀ c o, s.heap.get? c = some o → ∃ o', h₂.get? c = some o' := fun c o e => let ⟨o', e'⟩ := S₁.ex c o e; ⟨o', hk₂ _ _ e'⟩
  have hKge : h₂.objs.size ≤ H2.objs.size := by rw [hC]; exact Nat.le_succ _
  have D2 : h₂.get? h₂.objs.size = none := get_size _
  have R₂ : SR C.B σ₂ φ₁ h₂ := R₁.grow hk₂
  have F₂ : FR C.B tbl env Γ σ₂ φ₁ h₂ := (F.mono0 R S₁).mono0 R₁ (Stp.grow hk₂)
  have R₃ : SR (C.B.wav h₂.objs.size) σ₂ φ₁ h₃ := R₂.to D2 old (let ⟨k, e⟩ := hacc; ⟨_, e⟩)
  have F₃ : FR (C.B.wav h₂.objs.size) tbl env Γ σ₂ φ₁ h₃ := F₂.to D2 old
  have hbs : ∀ b, s.heap.get? b = none → C.B.hb.get? b = none := fun b e => by
    cases e' : C.B.hb.get? b with
    | none => rfl
    | some o => rw [R.based b o e'] at e; cases e
  have sD : s.heap.get? h₂.objs.size = none := gone sub2 (Nat.le_refl _)
  have sK : s.heap.get? H2.objs.size = none := gone sub2 hKge
  obtain ⟨W, eN, st0, hwr, hfix, hself, hnlf, hnI, hval⟩ := It
  have st0 : St 0 h₂ := st0
  have st3 : St 0 h₃ := W.frame _ _ _ st0 fun b _ o e => old b o e
  have fplt : ∀ b ∈ fp, b < h₂.objs.size := fun b hb => let ⟨o, e, _⟩ := hfix 0 h₂ st0 b hb; Heap.lt_size e
  have Ilt : I < h₂.objs.size := let ⟨o, e, _⟩ := hself 0 h₂ st0; Heap.lt_size e
  have It₃ : Iter (C.wav h₂.objs.size).B A σ₂ φ₁ h₃ items I fp wr N P St := ⟨W, eN, st3, hwr, hfix, hself, hnlf, hnI, fun i u hu => let ⟨x, e, r⟩ := hval i u hu; ⟨x, e, r.to D2 old⟩⟩
  have nm : ∀ b, h₂.objs.size ≤ b → b ∉ φ₁ := fun b hb L => by
    obtain ⟨o, e⟩ := R₂.ex b L
    exact absurd (Heap.lt_size e) (Nat.not_lt.mpr hb)
  have hv4 : vs.length ≤ roomy := putL_len he
  have loop : ∀ tk, codeAny C.M A (.compLoop (.ListComp ee [⟨.Name cx px, iter, ifs, 0⟩] scope pos) 0 (.ref I) (.ref h₂.objs.size) (compEnvC scope (clos env.cells scope.names []) H2.objs.size env)) (compPost C.M A E use Q (.ref h₂.objs.size) H2.objs.size) { s with heap := h₃, toks := tk } := by
    intro tk
    refine comp_loop (C := C.wav h₂.objs.size) (s := { s with heap := h₃, toks := tk }) (hE _) (hF _) hr O q2 F₃ R₃ It₃ c1 c2 h4 hv4 (.inr rfl) hacc hns₃ (hbs I hI0) (hbs _ sK) (hbs _ sD) hDK (fun hm => Nat.lt_irrefl _ (fplt _ hm))
      (fun hm => Nat.not_lt.mpr hKge (fplt _ hm)) (Nat.ne_of_gt Ilt) (Nat.ne_of_gt (Nat.lt_of_lt_of_le Ilt hKge)) ?_ (fun q => ?_) ?_ (hB := s.heap) R.len ((S₁.trans (Stp.grow hk₂) R.len).trans (Stp.grow old) R.len) ?_ (nm _ hKge) (fun L => nm _ (Nat.le_refl _) L.mem) ?_
    · intro b hb
      have ⟨o, e⟩ : ∃ o, s.heap.get? b = some o := by
        rcases hb with rfl | ⟨y, hy⟩
        · obtain ⟨m, ⟨o, _, _, e, _⟩, _⟩ := F.ns; exact ⟨o, e⟩
        · obtain ⟨u, o, e, _⟩ := F.cells y b hy; exact ⟨o, e⟩
      exact ⟨fun q => (by rw [q, hI0] at e; cases e), fun q => (by rw [q, sK] at e; cases e), fun q => (by rw [q, sD] at e; cases e)⟩
    · obtain ⟨o, e⟩ := R.main
      rw [← q, hI0] at e; cases e
    · rintro (hv | q)
      · obtain ⟨o, e⟩ := R.avx I hv
        rw [hI0] at e; cases e
      · exact Nat.ne_of_lt Ilt q
    · rintro b (rfl | rfl | rfl)
      · exact hI0
      · exact sK
      · exact sD
    · intro H tk' φ' ys m' R' S' nlK' hp hn r
      have r : VRs (C.B.wav h₂.objs.size) σ₃ φ' H vs ys := r
      have R' : SR (C.B.wav h₂.objs.size) σ₃ φ' H := R'
      have hnv : ¬ C.B.av h₂.objs.size := fun hv => by obtain ⟨o, e⟩ := R₂.avx _ hv; rw [D2] at e; cases e
      unfold putL at he
      rw [if_pos hv4] at he
      cases mm with
      | true =>
        cases he
        have Ra := R'.adopt hp r hv4 (R₂.sysOk (s := { s with heap := h₂, toks := tk₂ })) (hbs _ sD) hnv
        refine hfin h₂.objs.size H2.objs.size (φ' ++ [h₂.objs.size]) H tk' m' Ra ⟨fun i c e => getElem?_snoc_lt (S'.pre i c e), fun i c hi e => ?_, fun i e => getElem?_snoc_lt (S'.dead i e), S'.keep, S'.ex⟩ (.ref (by rw [← R'.len]; simp)) hn (fun L => ?_) sK
        · rcases getElem?_snoc e with e | ⟨_, rfl⟩
          · exact S'.new i c hi e
          · exact sD
        · rcases List.mem_append.mp L with L | q
          · exact nlK' L
          · exact hDK (List.mem_singleton.mp q).symm
      | false =>
        cases he
        refine hfin h₂.objs.size H2.objs.size φ' H tk' m' R'.fro S' (.lst hp ⟨fun L => R'.avn _ L.mem (.inr rfl), hnv⟩ r.fro hv4) hn nlK' sK
  exact codeAny_compStart_list (loop _) (W.self 0 _ _ _ st3 (loop _))

theorem sE_comp (hI : SI C d n) (hE : ∀ D, SE (C.wav D) d n) (hF : ∀ D, SF (C.wav D) d n) {e : Expr} {elt a b : Ex} {ik : IK} {mm : Bool} {cond : Option Ex}
    (hc : chkE C.N (n + 1) env.scope.names tbl Γ.length e (.comp mm elt ik a b cond) = true) (he : evE C.gl (callF C.gl C.P d) (.comp mm elt ik a b cond) Γ σ = .ok v σ') (hr : Room d A) (R : SR C.B σ φ s.heap) (F : FR C.B tbl env Γ σ φ s.heap) :
    wpAny C.M A (eval e env) (Post C.B s σ φ σ' v) E s := by
  obtain ⟨ee, cx, px, iter, ifs, csc, pos, rfl, q2, q3, q4, q5, q6⟩ := chk_comp hc
  rw [eval_ListComp]
  refine comp_core (use := none) hI hE hF hr q2 (ScOk.of q3) q4 q5 q6 he R F fun D K φ' h' tk m' R' S' r' hn nl sK => ⟨m', hn, fun h'' hs => ?_⟩
  have hs : Heap.SameBut K h' h'' := hs
  have hk : ∀ b o, b ≠ K → h'.get? b = some o → h''.get? b = some o := fun b o hb e => hs.extBut b o hb e
  obtain ⟨g1, g2, g3⟩ := R.newK sK
  exact ⟨φ', h'', tk, rfl, R'.lose g1 (Apart.ns hn) nl g2 g3 hk, S'.lose sK hk, r'.monoq R' (Stq.one hk) (Apart.ns hn)⟩
end
end Mine

namespace Mine
open PySem PyProof.Rows PySem.Calls

noncomputable def CallSims (C : Cx) (d : Nat) : Prop := ∀ av : Addr → Prop, CallSim { C with B := { C.B with av := av } } d

structure Sims (C : Cx) (d n : Nat) : Prop where
  E : SE C d n
  T : ST C d n
  Es : SEs C d n
  L : SL C d n
  O : SO C d n
  I : SI C d n
  F : SF C d n

theorem sE_succ {C : Cx} {d n : Nat} (ok : C.Ok) (hcs : CallSim C d) (H : Sims C d n) (hw : ∀ D, Sims (C.wav D) d n) : SE C d (n + 1) := by
  intro e x env tbl Γ σ v σ' A s φ E hc he hr R F
  cases x with
  | cNone => exact sE_const (.inl rfl) hc he R
  | cBool b => exact sE_const (.inr (.inl ⟨b, rfl⟩)) hc he R
  | cInt i => exact sE_const (.inr (.inr (.inl ⟨i, rfl⟩))) hc he R
  | cStr i => exact sE_const (.inr (.inr (.inr ⟨i, rfl⟩))) hc he R
  | var i => exact sE_names ok (.inl ⟨i, rfl⟩) hc he R F
  | glob i => exact sE_names ok (.inr ⟨i, rfl⟩) hc he R F
  | and a b => exact (sE_bools H.E H.T H.L (.inl ⟨a, b, rfl⟩) hc he hr R F).1
  | or a b => exact (sE_bools H.E H.T H.L (.inr ⟨a, b, rfl⟩) hc he hr R F).1
  | not a => exact (sE_not H.E H.T hc he hr R F).1
  | neg a => exact (sE_neg H.E hc he hr R F).1
  | bin o a b => exact sE_bin H.E hc he hr R F
  | cmp o a b => exact (sE_cmp H.E hc he hr R F).1
  | cmp2 o p a b c => exact (sE_cmp2 H.E hc he hr R F).1
  | ite c a b => exact (sE_ite H.E H.T hc he hr R F).1
  | tup xs => exact sE_tup H.Es hc he hr R F
  | lst m xs => exact sE_lst H.Es hc he hr R F
  | dict p => exact no_true hc
  | comp m elt ik a b cond => exact sE_comp H.I (fun D => (hw D).E) (fun D => (hw D).F) hc he hr R F
  | call f xs => exact sE_call ok hcs H.Es hc he hr R F
  | bi b xs => exact sE_bi ok H.E H.Es hc he hr R F
  | app o x => exact sE_app H.E hc he hr R F
  | pop o => exact sE_pop H.E hc he hr R F
  | clear o => exact no_true hc
  | rvs o => exact no_true hc
  | join s l => exact sE_join H.E hc he hr R F
  | idx a b => exact sE_idx H.E hc he hr R F
  | slice a lo hi => exact sE_slice H.E H.O hc he hr R F
  | frz a => exact no_true hc

theorem sT_plain {C : Cx} {d n : Nat} (hE : SE C d (n + 1)) {e : Expr} {x : Ex} {env : Env} {tbl : List (Str × Nat)} {Γ : Fm} {σ : Sg} {v : V} {t : Bool} {σ' : Sg} {A : Around} {s : Shared} {φ : List Addr} {E : Value → Shared → Prop}
    (hp : isTrue e env (eval e env) = (do let v ← eval e env; standAt e.pos; holding [v] (truthy v)))
    (hc : chkE C.N (n + 1) env.scope.names tbl Γ.length e x = true) (he : evE C.gl (callF C.gl C.P d) x Γ σ = .ok v σ') (ht : vTrue σ' v = some t) (hr : Room d A) (R : SR C.B σ φ s.heap) (F : FR C.B tbl env Γ σ φ s.heap) :
    wpAny C.M A (isTrue e env (eval e env)) (fun b s' => b = t ∧ PostU C.B s σ φ σ' s') E s := by
  rw [hp]
  refine wpAny_bind (post_mono (hE e x env tbl Γ σ v σ' A s φ E hc he hr R F) fun cv φ₁ h₁ tk R₁ S₁ r₁ => ?_)
  refine wpAny_bind (wpAny_standAt (wpAny_holding (op_truthy (s := { s with heap := h₁, toks := tk }) ht R₁ r₁ fun tk' => ?_)))
  exact ⟨rfl, φ₁, h₁, tk', rfl, R₁, S₁⟩

theorem sT_succ {C : Cx} {d n : Nat} (H : Sims C d n) (hE : SE C d (n + 1)) : ST C d (n + 1) := by
  intro e x env tbl Γ σ v t σ' A s φ E hts hc he ht hr R F
  cases x with
  | and a b => exact (sE_bools H.E H.T H.L (.inl ⟨a, b, rfl⟩) hc he hr R F).2 t ht
  | or a b => exact (sE_bools H.E H.T H.L (.inr ⟨a, b, rfl⟩) hc he hr R F).2 t ht
  | not a => exact (sE_not H.E H.T hc he hr R F).2 t ht
  | cmp o a b => exact (sE_cmp H.E hc he hr R F).2 t ht
  | cmp2 o p a b c => exact (sE_cmp2 H.E hc he hr R F).2 t ht
  | ite c a b => exact (sE_ite H.E H.T hc he hr R F).2 t ht
  | neg a =>
    obtain ⟨_, y, p, rfl⟩ := sE_neg (E := E) H.E hc he hr R F
    exact sT_plain hE rfl hc he ht hr R F
  | _ => exact sT_plain hE (test_of hts _) hc he ht hr R F

theorem sims_zero {C : Cx} {d : Nat} : Sims C d 0 := by
  refine ⟨?_, ?_, ?_, ?_, ?_, ?_, ?_⟩
  · intro e x env tbl Γ σ v σ' A s φ E hc; exact no_true hc
  · intro e x env tbl Γ σ v t σ' A s φ E _ hc; exact no_true hc
  · intro e x env tbl Γ σ v σ' A s φ E pos hc; exact no_true hc
  · intro op w r x env tbl Γ σ v σ' A s φ E pos hc; exact no_true hc
  · intro e x env tbl Γ σ v σ' A s φ E hc; exact no_true hc
  · intro e ik x y env tbl Γ σ a σ₁ b σ₂ items A s φ E hc; exact no_true hc
  · intro e x env tbl Γ σ v σ' A s φ E hc; exact no_true hc

theorem sims (d : Nat) : ∀ (n : Nat) (C : Cx), C.Ok → CallSims C d → Sims C d n
  | 0, _, _, _ => sims_zero
  | n + 1, C, ok, hcs => by
    have H := sims d n C ok hcs
    have hw : ∀ D, Sims (C.wav D) d n := fun D => sims d n (C.wav D) (ok.wav D) fun av => hcs av
    have hE := sE_succ ok (hcs C.B.av) H hw
    exact ⟨hE, sT_succ H hE, sEs_succ H.E H.Es, sL_succ H.E H.T H.L, sO_succ H.E, sI_succ ok H.E, sF_succ H.T⟩
end Mine

namespace Mine
open PySem PyProof.Rows PySem.Calls

/-- how a run of statements ends -/
inductive FlR (B : Bs) (σ : Sg) (φ : List Addr) (h : Heap) : Fl → Flow → Prop
  | next : FlR B σ φ h .next .next
  | ret {v : V} {cv : Value} : VR B σ φ h v cv → FlR B σ φ h (.ret v) (.ret cv)

noncomputable def PostS (B : Bs) (tbl : List (Str × Nat)) (env : Env) (nl : Nat) (s : Shared) (σ : Sg) (φ : List Addr) (σ' : Sg) (p : Fl × Fm) (fl : Flow) (s' : Shared) : Prop :=
  ∃ φ' h' tk, s' = { s with heap := h', toks := tk } ∧ SR B σ' φ' h' ∧ Stp (own env) σ φ s.heap σ' φ' h' ∧ FR B tbl env p.2 σ' φ' h' ∧ p.2.length = nl ∧ FlR B σ' φ' h' p.1 fl

structure EnvOk (tbl : List (Str × Nat)) (env : Env) : Prop where
  inj : TInj tbl
  cells : env.cells.Pairwise fun x y => x.2 ≠ y.2
  inter : interactive env = false

noncomputable def SS (C : Cx) (d n : Nat) : Prop := ∀ (st : Stmt) (x : St) (env : Env) (tbl : List (Str × Nat)) (Γ : Fm) (σ : Sg) (p : Fl × Fm) (σ' : Sg) (A : Around) (s : Shared) (φ : List Addr) (E : Value → Shared → Prop),
  EnvOk tbl env → chkS C.N n env.scope.names tbl Γ.length st x = true → exS C.gl (callF C.gl C.P d) x Γ σ = .ok p σ' → Room d A → SR C.B σ φ s.heap → FR C.B tbl env Γ σ φ s.heap →
  wpAny C.M A (exec st env) (PostS C.B tbl env Γ.length s σ φ σ' p) E s
noncomputable def SB (C : Cx) (d n : Nat) : Prop := ∀ (st : List Stmt) (x : List St) (env : Env) (tbl : List (Str × Nat)) (Γ : Fm) (σ : Sg) (p : Fl × Fm) (σ' : Sg) (A : Around) (s : Shared) (φ : List Addr) (E : Value → Shared → Prop),
  EnvOk tbl env → chkB C.N n env.scope.names tbl Γ.length st x = true → exB C.gl (callF C.gl C.P d) x Γ σ = .ok p σ' → Room d A → SR C.B σ φ s.heap → FR C.B tbl env Γ σ φ s.heap →
  wpAny C.M A (execs st env) (PostS C.B tbl env Γ.length s σ φ σ' p) E s

section
variable {C : Cx} {d n : Nat} {env : Env} {tbl : List (Str × Nat)} {Γ : Fm} {σ σ₁ σ' : Sg} {p : Fl × Fm} {A : Around} {s : Shared} {φ φ₁ : List Addr} {h₁ : Heap} {tk : Nat} {E : Value → Shared → Prop}

theorem PostS.trans {B : Bs} {nl : Nat} {fl : Flow} {s' : Shared} (hl : φ.length = σ.length) (S : Stp (own env) σ φ s.heap σ₁ φ₁ h₁) (P : PostS B tbl env nl { s with heap := h₁, toks := tk } σ₁ φ₁ σ' p fl s') : PostS B tbl env nl s σ φ σ' p fl s' := by
  obtain ⟨φ', h', tk', e, R, S', F, hn, f⟩ := P
  exact ⟨φ', h', tk', e, R, S.trans S' hl, F, hn, f⟩

theorem sB_succ (hS : SS C d n) (hB : SB C d n) : SB C d (n + 1) := by
  intro st x env tbl Γ σ p σ' A s φ E ho hc he hr R F
  cases st with
  | nil =>
    cases x with
    | nil => cases he; exact wpAny_execs_nil ⟨φ, s.heap, s.toks, rfl, R, .refl, F, rfl, .next⟩
    | cons y x => exact no_true hc
  | cons t st =>
    cases x with
    | nil => exact no_true hc
    | cons y x =>
      replace hc := both (show (chkS C.N n env.scope.names tbl Γ.length t y && chkB C.N n env.scope.names tbl Γ.length st x) = true from hc)
      rw [exB_cons0] at he
      obtain ⟨⟨f, Γ₁⟩, σ₁, h1, he⟩ := bind_eq_ok he
      refine wpAny_execs_cons (wpAny_mono (hS t y env tbl Γ σ _ σ₁ A s φ E ho hc.1 h1 hr R F) (fun fl s₁ P => ?_) fun _ _ e => e)
      obtain ⟨φ₁, h₁, tk, rfl, R₁, S₁, F₁, hn₁, f₁⟩ := P
      cases f₁ with
      | next =>
        have hn₁ : Γ₁.length = Γ.length := hn₁
        refine wpAny_mono (hB st x env tbl Γ₁ σ₁ p σ' A _ φ₁ E ho (by rw [hn₁]; exact hc.2) he hr R₁ F₁) (fun fl s₂ P => ?_) fun _ _ e => e
        rw [hn₁] at P
        exact P.trans R.len S₁
      | ret r => cases he; exact ⟨φ₁, h₁, tk, rfl, R₁, S₁, F₁, hn₁, .ret r⟩

theorem nosw {e : Expr} (h : compOf e = false) (t : Option Expr) (l : Nat) : swapsWith e t l env = pure false := by
  cases e <;> first | rfl | cases h

theorem stoOk_eq {sc : List (Str × NameKind)} {id : Str} {i : Nat} (h : stoOk sc tbl id i = true) : tbl.lookup id = some i ∧ (sc.lookup id = some .local ∨ sc.lookup id = some .cell) := by
  unfold stoOk at h
  rw [Bool.and_eq_true, Bool.and_eq_true, Bool.or_eq_true, beq_iff_eq, lkS_eq, lkS_eq] at h
  exact ⟨h.1.1, h.1.2.elim (fun q => .inl (isLoc_eq q)) fun q => .inr (isCel_eq q)⟩

theorem store_kind {id : Str} {B : Bs} {h : Heap} (F : FR B tbl env Γ σ φ h) (k : env.scope.names.lookup id = some .local ∨ env.scope.names.lookup id = some .cell) :
    env.kindOf id = some .local ∨ (env.kindOf id = some .cell ∧ (env.cells.lookup id).isSome = true) := k.elim .inl fun q => .inr ⟨q, F.has id q⟩

theorem Stp.w0 {W : Addr → Prop} {h : Heap} (S : Stp W0 σ φ h σ₁ φ₁ h₁) : Stp W σ φ h σ₁ φ₁ h₁ := S.weaken fun _ x => x.elim

theorem sS_expr (H : Sims C d n) {e : Expr} {x : Ex} {pos : Pos} (ho : EnvOk tbl env) (hc : compOf e = false) (hc' : chkE C.N n env.scope.names tbl Γ.length e x = true) (he : exS C.gl (callF C.gl C.P d) (.expr x) Γ σ = .ok p σ') (hr : Room d A) (R : SR C.B σ φ s.heap) (F : FR C.B tbl env Γ σ φ s.heap) :
    wpAny C.M A (exec (.Expr e pos) env) (PostS C.B tbl env Γ.length s σ φ σ' p) E s := by
  rw [exS_expr0] at he
  obtain ⟨v, σ₁, h1, he⟩ := bind_eq_ok he
  cases he
  refine wpAny_Expr_any (post_mono (H.E e x env tbl Γ σ v σ' A s φ E hc' h1 hr R F) fun cv φ₁ h₁ tk R₁ S₁ r₁ => ?_) ho.inter (nosw hc _ _)
  exact ⟨φ₁, h₁, tk, rfl, R₁, S₁.w0, F.mono0 R S₁, rfl, .next⟩

theorem sS_ret (H : Sims C d n) {e : Expr} {x : Ex} {pos : Pos} (hc' : chkE C.N n env.scope.names tbl Γ.length e x = true) (he : exS C.gl (callF C.gl C.P d) (.ret x) Γ σ = .ok p σ') (hr : Room d A) (R : SR C.B σ φ s.heap) (F : FR C.B tbl env Γ σ φ s.heap) :
    wpAny C.M A (exec (.Return (some e) pos) env) (PostS C.B tbl env Γ.length s σ φ σ' p) E s := by
  rw [exS_ret0] at he
  obtain ⟨v, σ₁, h1, he⟩ := bind_eq_ok he
  cases he
  refine wpAny_Return_some (post_mono (H.E e x env tbl Γ σ v σ' A s φ E hc' h1 hr R F) fun cv φ₁ h₁ tk R₁ S₁ r₁ => ?_)
  exact ⟨φ₁, h₁, tk, rfl, R₁, S₁.w0, F.mono0 R S₁, rfl, .ret r₁⟩

theorem sto_eq_ok {o : Option Sg} (h : storeR Γ o = .ok p σ') : ∃ σ₄, o = some σ₄ ∧ (Res.ok (.next, Γ) σ₄ : Res (Fl × Fm)) = .ok p σ' := by
  cases o with
  | none => cases h
  | some σ₄ => exact ⟨σ₄, rfl, h⟩

theorem sS_sto (H : Sims C d n) {e o i : Expr} {xe xo xi : Ex} {pos pos' : Pos} (hc : compOf e = false) (c1 : chkE C.N n env.scope.names tbl Γ.length e xe = true) (c2 : chkE C.N n env.scope.names tbl Γ.length o xo = true) (c3 : chkE C.N n env.scope.names tbl Γ.length i xi = true)
    (he : exS C.gl (callF C.gl C.P d) (.sto xo xi xe) Γ σ = .ok p σ') (hr : Room d A) (R : SR C.B σ φ s.heap) (F : FR C.B tbl env Γ σ φ s.heap) :
    wpAny C.M A (exec (.Assign [.Subscript o i pos'] e pos) env) (PostS C.B tbl env Γ.length s σ φ σ' p) E s := by
  rw [exS_sto0] at he
  obtain ⟨v, σ₁, h1, he⟩ := bind_eq_ok he
  obtain ⟨ov, σ₂, h2, he⟩ := bind_eq_ok he
  obtain ⟨iv, σ₃, h3, he⟩ := bind_eq_ok he
  obtain ⟨σ₄, h4, he⟩ := sto_eq_ok he
  · cases he
    refine wpAny_Assign_Subscript (post_mono (H.E e xe env tbl Γ σ v σ₁ A s φ E c1 h1 hr R F) fun cv φ₁ h₁ tk R₁ S₁ r₁ => ?_) (nosw hc _ _)
    refine post_mono (H.E o xo env tbl Γ σ₁ ov σ₂ A _ φ₁ E c2 h2 hr R₁ (F.mono0 R S₁)) fun co φ₂ h₂ tk₂ R₂ S₂ r₂ => ?_
    refine post_mono (H.E i xi env tbl Γ σ₂ iv σ₃ A _ φ₂ E c3 h3 hr R₂ ((F.mono0 R S₁).mono0 R₁ S₂)) fun ci φ₃ h₃ tk₃ R₃ S₃ r₃ => ?_
    have T₃ := (S₁.trans S₂ R.len).trans S₃ R.len
    refine op_store (s := { s with heap := h₃, toks := tk₃ }) h4 ⟨rfl, rfl⟩ R₃ (r₂.mono R₂ S₃ Apart.none) r₃ ((r₁.mono R₁ S₂ Apart.none).mono R₂ S₃ Apart.none) hr.u64 fun h₄ tk₄ R₄ S₄ => ?_
    exact ⟨φ₃, h₄, tk₄, rfl, R₄, (T₃.trans S₄ R.len).w0, F.mono0 R (T₃.trans S₄ R.len), rfl, .next⟩

theorem sS_ite (H : Sims C d n) (hB : SB C d n) {t : Expr} {a b : List Stmt} {c : Ex} {x y : List St} {pos : Pos} (ho : EnvOk tbl env) (c0 : tstOk t c = true) (c1 : chkE C.N n env.scope.names tbl Γ.length t c = true) (c2 : chkB C.N n env.scope.names tbl Γ.length a x = true) (c3 : chkB C.N n env.scope.names tbl Γ.length b y = true)
    (he : exS C.gl (callF C.gl C.P d) (.ite c x y) Γ σ = .ok p σ') (hr : Room d A) (R : SR C.B σ φ s.heap) (F : FR C.B tbl env Γ σ φ s.heap) :
    wpAny C.M A (exec (.If t a b pos) env) (PostS C.B tbl env Γ.length s σ φ σ' p) E s := by
  rw [exS_ite0] at he
  obtain ⟨v, σ₁, h1, he⟩ := bind_eq_ok he
  obtain ⟨tt, h2, he⟩ := bind_of_ok he
  refine wpAny_If (wpAny_mono (H.T t c env tbl Γ σ v tt σ₁ A s φ E c0 c1 h1 h2 hr R F) (fun bb s₁ P => ?_) fun _ _ e => e)
  obtain ⟨rfl, φ₁, h₁, tk, rfl, R₁, S₁⟩ := P
  cases bb with
  | true => exact wpAny_mono (hB a x env tbl Γ σ₁ p σ' A _ φ₁ E ho c2 he hr R₁ (F.mono0 R S₁)) (fun fl s₂ P => P.trans R.len S₁.w0) fun _ _ e => e
  | false => exact wpAny_mono (hB b y env tbl Γ σ₁ p σ' A _ φ₁ E ho c3 he hr R₁ (F.mono0 R S₁)) (fun fl s₂ P => P.trans R.len S₁.w0) fun _ _ e => e

/-- what a while loop keeps -/
inductive WhInv (C : Cx) (d : Nat) (c : Ex) (x : List St) (tbl : List (Str × Nat)) (env : Env) (nl : Nat) (s : Shared) (σ : Sg) (φ : List Addr) (σ' : Sg) (p : Fl × Fm) (m : Nat) : Shared → Prop
  | mk (φk : List Addr) (hk : Heap) (tkk : Nat) (σk : Sg) (Γk : Fm) : SR C.B σk φk hk → Stp (own env) σ φ s.heap σk φk hk → FR C.B tbl env Γk σk φk hk → Γk.length = nl → loopN (whTurn C.gl (callF C.gl C.P d) c x) m Γk σk = .ok p σ' →
    WhInv C d c x tbl env nl s σ φ σ' p m { s with heap := hk, toks := tkk }

theorem sS_while (H : Sims C d n) (hB : SB C d n) {t : Expr} {a : List Stmt} {c : Ex} {x : List St} {pos : Pos} (ho : EnvOk tbl env) (c0 : tstOk t c = true) (c1 : chkE C.N n env.scope.names tbl Γ.length t c = true) (c2 : chkB C.N n env.scope.names tbl Γ.length a x = true)
    (he : exS C.gl (callF C.gl C.P d) (.while c x) Γ σ = .ok p σ') (hr : Room d A) (R : SR C.B σ φ s.heap) (F : FR C.B tbl env Γ σ φ s.heap) :
    wpAny C.M A (exec (.While t a [] pos) env) (PostS C.B tbl env Γ.length s σ φ σ' p) E s := by
  rw [exS_whileT] at he
  obtain ⟨N, hN⟩ := loopW_fuel he
  clear he
  refine wpAny_While (codeAny_whileLoop (WhInv C d c x tbl env Γ.length s σ φ σ' p) ?_ N (.mk φ s.heap s.toks σ Γ R .refl F rfl hN))
  intro m s' I
  cases I with
  | mk φk hk tkk σk Γk Rk Sk Fk ek hgo =>
  cases m with
  | zero => cases hgo
  | succ m =>
    have run : ∀ {v : V} {tt : Bool} {σ₂ : Sg} {Q : Bool → Shared → Prop} {E' : Value → Shared → Prop}, evE C.gl (callF C.gl C.P d) c Γk σk = .ok v σ₂ → vTrue σ₂ v = some tt → (∀ φ₁ h₁ tk, SR C.B σ₂ φ₁ h₁ → Stp W0 σk φk hk σ₂ φ₁ h₁ → Q tt { s with heap := h₁, toks := tk }) → wpAny C.M A (isTrue t env (eval t env)) Q E' { s with heap := hk, toks := tkk } := fun h2 h3 hQ =>
      wpAny_mono (H.T t c env tbl Γk σk _ _ _ A _ φk _ c0 (by rw [ek]; exact c1) h2 h3 hr Rk Fk) (fun bb s₁ P => by
        obtain ⟨rfl, φ₁, h₁, tk, rfl, R₁, S₁⟩ := P
        exact hQ φ₁ h₁ tk R₁ S₁) fun _ _ e => e
    cases whStep hgo with
    | stop v h2 h3 hp => subst hp; exact run h2 h3 fun φ₁ h₁ tk R₁ S₁ => wpAny_execs_nil ⟨φ₁, h₁, tk, rfl, R₁, Sk.trans S₁.w0 R.len, Fk.mono0 Rk S₁, ek, .next⟩
    | go v σ₂ q σ₃ h2 h3 h4 hgo =>
      refine run h2 h3 fun φ₁ h₁ tk R₁ S₁ => wpAny_mono (hB a x env tbl Γk σ₂ _ σ₃ A _ φ₁ _ ho (by rw [ek]; exact c2) h4 hr R₁ (Fk.mono0 Rk S₁)) (fun fl s₂ P => ?_) fun _ _ e => e
      obtain ⟨φ₂, h₂, tk₂, rfl, R₂, S₂, F₂, hn₂, f₂⟩ := P
      cases f₂
      exact ⟨m, Nat.lt_succ_self m, .mk φ₂ h₂ tk₂ _ _ R₂ ((Sk.trans S₁.w0 R.len).trans S₂ R.len) F₂ (Eq.trans hn₂ ek) hgo⟩
    | ret v σ₂ h2 h3 h4 hu =>
      refine run h2 h3 fun φ₁ h₁ tk R₁ S₁ => wpAny_mono (hB a x env tbl Γk σ₂ _ _ A _ φ₁ _ ho (by rw [ek]; exact c2) h4 hr R₁ (Fk.mono0 Rk S₁)) (fun fl s₂ P => ?_) fun _ _ e => e
      obtain ⟨φ₂, h₂, tk₂, rfl, R₂, S₂, F₂, hn₂, f₂⟩ := P
      obtain ⟨u, hu⟩ := hu
      obtain ⟨pf, pΓ⟩ := p
      replace hu : pf = .ret u := hu
      subst hu
      cases f₂ with
      | ret r => exact ⟨φ₂, h₂, tk₂, rfl, R₂, (Sk.trans S₁.w0 R.len).trans S₂ R.len, F₂, Eq.trans hn₂ ek, .ret r⟩
end
end Mine

namespace Mine
open PySem PyProof.Rows PySem.Calls

section
variable {C : Cx} {d n : Nat} {env : Env} {tbl : List (Str × Nat)} {Γ : Fm} {σ σ₁ σ' : Sg} {p : Fl × Fm} {A : Around} {s : Shared} {φ φ₁ : List Addr} {h₁ : Heap} {tk : Nat} {E : Value → Shared → Prop}

theorem FR.own_ex {B : Bs} {h : Heap} (F : FR B tbl env Γ σ φ h) {b : Addr} (hb : own env b) : ∃ o, h.get? b = some o := by
  rcases hb with rfl | ⟨y, hy⟩
  · obtain ⟨m, ⟨o, _, _, e, _⟩, _⟩ := F.ns; exact ⟨o, e⟩
  · obtain ⟨u, o, e, _⟩ := F.cells y b hy; exact ⟨o, e⟩

theorem sS_asg_plain (H : SE C d n) {e : Expr} {x : Ex} {id : Str} {i : Nat} {pos pos' : Pos} (ho : EnvOk tbl env) (hsw : swapsWith e (some (.Name id pos')) pos.line env = pure false) (c0 : stoOk env.scope.names tbl id i = true) (c1 : chkE C.N n env.scope.names tbl Γ.length e x = true)
    (he : exS C.gl (callF C.gl C.P d) (.asg i x) Γ σ = .ok p σ') (hr : Room d A) (R : SR C.B σ φ s.heap) (F : FR C.B tbl env Γ σ φ s.heap) :
    wpAny C.M A (exec (.Assign [.Name id pos'] e pos) env) (PostS C.B tbl env Γ.length s σ φ σ' p) E s := by
  rw [exS_asg0] at he
  obtain ⟨v, σ₁, h1, he⟩ := bind_eq_ok he
  cases he
  obtain ⟨k1, k2⟩ := stoOk_eq c0
  refine wpAny_Assign_Name (post_mono (H e x env tbl Γ σ v σ' A s φ E c1 h1 hr R F) fun cv φ₁ h₁ tk R₁ S₁ r₁ => ?_) hsw
  have F₁ := F.mono0 R S₁
  refine store_var (s := { s with heap := h₁, toks := tk }) R₁ F₁ ho.inj ho.cells k1 (store_kind F₁ k2) r₁ fun h₂ tk₂ R₂ F₂ S₂ => ?_
  exact ⟨φ₁, h₂, tk₂, rfl, R₂, S₁.w0.trans S₂ R.len, F₂, by simp, .next⟩

theorem sS_asg (ok : C.Ok) (hcs : CallSims C d) {e : Expr} {x : Ex} {id : Str} {i : Nat} {pos pos' : Pos} (ho : EnvOk tbl env) (c0 : stoOk env.scope.names tbl id i = true) (cc : (!compOf e || isComp x) = true) (c1 : chkE C.N n env.scope.names tbl Γ.length e x = true)
    (he : exS C.gl (callF C.gl C.P d) (.asg i x) Γ σ = .ok p σ') (hr : Room d A) (R : SR C.B σ φ s.heap) (F : FR C.B tbl env Γ σ φ s.heap) :
    wpAny C.M A (exec (.Assign [.Name id pos'] e pos) env) (PostS C.B tbl env Γ.length s σ φ σ' p) E s := by
  cases hce : compOf e with
  | false => exact sS_asg_plain (sims d n C ok hcs).E ho (nosw hce _ _) c0 c1 he hr R F
  | true =>
    rw [hce] at cc
    cases x with
    | comp mm elt ik a b cond =>
      cases n with
      | zero => exact no_true c1
      | succ n =>
      obtain ⟨ee, cx, px, iter, ifs, csc, posc, rfl, q2, q3, q4, q5, q6⟩ := chk_comp c1
      · obtain ⟨bsw, hb⟩ : ∃ b, swapsWith (.ListComp ee [⟨.Name cx px, iter, ifs, 0⟩] csc posc) (some (.Name id pos')) pos.line env = pure b := ⟨_, rfl⟩
        cases bsw with
        | false => exact sS_asg_plain (sims d (n + 1) C ok hcs).E ho hb c0 c1 he hr R F
        | true =>
          rw [exS_asg0] at he
          obtain ⟨v, σ₁, h1, he⟩ := bind_eq_ok he
          cases he
          obtain ⟨k1, k2⟩ := stoOk_eq c0
          have hw : ∀ D, Sims (C.wav D) d n := fun D => sims d n (C.wav D) (ok.wav D) fun av => hcs av
          rw [exec_Assign_Name_used _ _ _ _ hb]
          refine wpAny_bind (wpAny_standAt (wpAny_bind ?_))
          show wpAny _ A (do let _ ← comprehension (.ListComp ee [⟨.Name cx px, iter, ifs, 0⟩] csc posc) csc env _ (newList []) false (eval iter env) (some (assign (.Name id pos') env))) _ _ s
          refine wpAny_bind (wpAny_mono (comp_core (use := some (assign (.Name id pos') env)) (Q := fun _ s' => PostS C.B tbl env Γ.length s σ φ σ' (.next, Γ.set i v) .next s') (sims d n C ok hcs).I (fun D => (hw D).E) (fun D => (hw D).F) hr q2 (ScOk.of q3) q4 q5 q6 h1 R F
            fun D K φ' h' tk m' R' S' r' hn nl sK => ?_) (fun _ s' hq => wpAny_pure (wpAny_pure hq)) fun _ _ e => e)
          have F' := F.mono0 R S'
          show wpAny _ A (assign (.Name id pos') env (.ref D)) _ _ _
          refine wpAny_assign_Name (store_var (s := { s with heap := h', toks := tk }) R' F' ho.inj ho.cells k1 (store_kind F' k2) r' fun h₂ tk₂ R₂ F₂ S₂ => ?_)
          have ownK : ¬ own env K := fun hk => by obtain ⟨o, e⟩ := F.own_ex hk; rw [sK] at e; cases e
          have hn₂ : h₂.Ns K m' := hn.at' fun o e => S₂.keep K o e (fun L => nl L.mem) ownK
          refine ⟨m', hn₂, fun h₃ hs => ?_⟩
          have hs : Heap.SameBut K h₂ h₃ := hs
          have hk : ∀ b o, b ≠ K → h₂.get? b = some o → h₃.get? b = some o := fun b o hb e => hs.extBut b o hb e
          obtain ⟨g1, g2, g3⟩ := R.newK sK
          refine ⟨φ', h₃, tk₂, rfl, R₂.lose g1 (Apart.ns hn₂) nl g2 g3 hk, (Stp.trans S'.w0 S₂ R.len).lose sK hk, F₂.monoq R₂ (Stq.one hk) (Apart.ns hn₂) (fun q => ownK (q ▸ .inl rfl)) (fun y c hc q => ownK (by rw [← show c = K from q]; exact .inr ⟨y, hc⟩)), by simp, .next⟩
    | _ => cases cc

theorem Stp.dropTo {W W' : Addr → Prop} {h : Heap} (S : Stp W σ φ h σ₁ φ₁ h₁) (hw : ∀ b, W b → W' b ∨ h.get? b = none) : Stp W' σ φ h σ₁ φ₁ h₁ :=
  ⟨S.pre, S.new, S.dead, fun b o e hl hn => S.keep b o e hl fun x => (hw b x).elim hn fun q => (by rw [q] at e; cases e), S.ex⟩

/-- what a for loop keeps -/
inductive FoInv (C : Cx) (d : Nat) (tbl : List (Str × Nat)) (env : Env) (nl : Nat) (b : List St) (i : Nat) (items : List V) (I : Addr) (N : Nat) (St : Nat → Heap → Prop) (s : Shared) (σ₂ : Sg) (φ₁ : List Addr) (h₂ : Heap) (p : Fl × Fm) (σ' : Sg) (m : Nat) : Shared → Prop
  | mk (φk : List Addr) (hk : Heap) (tkk : Nat) (σk : Sg) (Γk : Fm) (j : Nat) : SR C.B σk φk hk → Stp (fun b => own env b ∨ b = I) σ₂ φ₁ h₂ σk φk hk → St j hk → FR C.B tbl env Γk σk φk hk → Γk.length = nl →
    forGo (exB C.gl (callF C.gl C.P d) b) i (items.drop j) Γk σk = .ok p σ' → j ≤ N → m = N + 1 - j → FoInv C d tbl env nl b i items I N St s σ₂ φ₁ h₂ p σ' m { s with heap := hk, toks := tkk }

theorem sS_for (H : Sims C d n) (hB : SB C d n) {e : Expr} {a : List Stmt} {x y : Ex} {ik : IK} {b : List St} {id : Str} {i : Nat} {pos pos' : Pos} (ho : EnvOk tbl env) (c0 : stoOk env.scope.names tbl id i = true) (c1 : chkI C.N n env.scope.names tbl Γ.length e ik x y = true)
    (c2 : chkB C.N n env.scope.names tbl Γ.length a b = true)
    (he : exS C.gl (callF C.gl C.P d) (.for i ik x y b) Γ σ = .ok p σ') (hr : Room d A) (R : SR C.B σ φ s.heap) (F : FR C.B tbl env Γ σ φ s.heap) :
    wpAny C.M A (exec (.For (.Name id pos') e a [] pos) env) (PostS C.B tbl env Γ.length s σ φ σ' p) E s := by
  rw [exS_for0] at he
  obtain ⟨xv, σ₁, h1, he⟩ := bind_eq_ok he
  obtain ⟨yv, σ₂, h2, he⟩ := bind_eq_ok he
  obtain ⟨items, h3, hgo⟩ := bind_of_ok he
  obtain ⟨k1, k2⟩ := stoOk_eq c0
  refine wpAny_For ?_ (fun z => folded_of (chkI_set c1) z)
  refine wpAny_mono (H.I e ik x y env tbl Γ σ xv σ₁ yv σ₂ items A s φ E c1 h1 h2 h3 hr R F) (fun cv s₁ Pi => ?_) fun _ _ e => e
  obtain ⟨φ₁, h₁, tk₁, rfl, R₁, S₁, iv⟩ := Pi
  refine wpAny_mono (op_iter (h₀ := s.heap) iv hr.hh R₁ S₁.ex) (fun it s₂ P₂ => ?_) fun _ _ e => e
  obtain ⟨I, h₂, tk₂, fp, wr, N, P, St, rfl, rfl, hk₂, hI0, It⟩ := P₂
  have hk₂ : ∀ b o, h₁.get? b = some o → h₂.get? b = some o := hk₂
  have R₂ : SR C.B σ₂ φ₁ h₂ := R₁.grow hk₂
  have T₂ : Stp W0 σ φ s.heap σ₂ φ₁ h₂ := S₁.trans (Stp.grow hk₂) R.len
  have F₂ : FR C.B tbl env Γ σ₂ φ₁ h₂ := F.mono0 R T₂
  obtain ⟨W, eN, st0, hwr, hfix, hself, hnlf, hnI, hval⟩ := It
  have st0 : St 0 h₂ := st0
  obtain ⟨g1, g2, g3⟩ := R.newK hI0
  have ownI : ∀ b, own env b → b ≠ I := fun b hb q => by obtain ⟨o, e⟩ := F.own_ex hb; rw [q, hI0] at e; cases e
  have apI : ∀ j hh, St j hh → Apart C.B (· = I) hh := by
    rintro j hh st b rfl o ho
    obtain ⟨o', e1, ⟨fs, e2⟩, T, e3⟩ := hself j _ st
    rw [ho] at e1; cases e1
    exact .inr ⟨fun xs n e => (by rw [e2] at e; cases e), fun fs' e C' e' => (by rw [e3] at e'; cases e')⟩
  have ap₂ : Apart C.B (fun b => own env b ∨ b = I) h₂ := by
    rintro b (hb | hb) o ho
    · exact F₂.apart b hb o ho
    · exact apI 0 h₂ st0 b hb o ho
  have exI : ∃ o, h₂.get? I = some o := let ⟨o, e, _⟩ := hself 0 h₂ st0; ⟨o, e⟩
  have fin : ∀ {σk φk hk}, Stp (fun b => own env b ∨ b = I) σ₂ φ₁ h₂ σk φk hk → Stp (own env) σ φ s.heap σk φk hk := fun Sk =>
    (Stp.trans T₂.w0 Sk R.len).dropTo fun b hb => hb.elim .inl fun q => .inr (by rw [q]; exact hI0)
  refine codeAny_forLoop (FoInv C d tbl env Γ.length b i items I N St s σ₂ φ₁ h₂ p σ') ?_ (N + 1) (.mk φ₁ h₂ tk₂ σ₂ Γ 0 R₂ .refl st0 F₂ rfl hgo (Nat.zero_le _) rfl)
  intro m s' J
  cases J with
  | mk φk hk tkk σk Γk j Rk Sk stk Fk ek hgk hj hmj =>
  subst hmj
  have hnk : ∀ {σx : Sg} {φx : List Addr} {hx : Heap}, Stp (fun b => own env b ∨ b = I) σ₂ φ₁ h₂ σx φx hx → I ∉ φx := fun {σx φx hx} Sx hm => by
    obtain ⟨q, hq⟩ := List.getElem?_of_mem hm
    by_cases hlt : q < φ₁.length
    · have e4 := Sx.pre q φ₁[q] (List.getElem?_eq_getElem hlt)
      rw [hq] at e4
      exact hnI (Option.some.inj e4 ▸ List.getElem_mem hlt)
    · obtain ⟨o, e⟩ := exI
      have := Sx.new q I (Nat.le_of_not_lt hlt) hq
      rw [e] at this; cases this
  by_cases hlt : j < N
  · refine W.item j _ _ _ hlt stk fun v h₃ tk₃ hPv hst₃ hk₃ => ?_
    obtain ⟨u, eu, ru⟩ := hval j v hPv
    have hk₃' : ∀ b o, b ≠ I → hk.get? b = some o → h₃.get? b = some o := fun b o hb e => hk₃ b o (fun hw => hb (hwr b hw)) e
    obtain ⟨R₃, S₃⟩ := Rk.one g1 (apI j hk stk) (fun L => hnk Sk L.mem) hk₃' (let ⟨o, e, _⟩ := hself (j + 1) _ hst₃; ⟨o, e⟩)
    have F₃ : FR C.B tbl env Γk σk φk h₃ := Fk.mono Rk S₃ (apI j hk stk) (fun q => ownI _ (.inl rfl) q) fun y c hc q => ownI c (.inr ⟨y, hc⟩) q
    have T₃ : Stp (fun b => own env b ∨ b = I) σ₂ φ₁ h₂ σk φk h₃ := Sk.trans (S₃.weaken fun b hb => .inr hb) R₂.len
    have ru₃ : VR C.B σk φk h₃ u v := VR.mono R₂ T₃ ap₂ ru
    refine wpAny_assign_Name (store_var (s := { s with heap := h₃, toks := tk₃ }) R₃ F₃ ho.inj ho.cells k1 (store_kind F₃ k2) ru₃ fun h₄ tk₄ R₄ F₄ S₄ => ?_)
    have T₄ : Stp (fun b => own env b ∨ b = I) σ₂ φ₁ h₂ σk φk h₄ := T₃.trans (S₄.weaken fun b hb => .inl hb) R₂.len
    have frm : ∀ {σx σy : Sg} {φx φy : List Addr} {hx hy : Heap} {q : Nat}, Stp (fun b => own env b ∨ b = I) σ₂ φ₁ h₂ σx φx hx → Stp (own env) σx φx hx σy φy hy → St q hx → St q hy := fun {σx σy φx φy hx hy q} Sx S stx => by
      refine W.frame _ _ _ stx fun b hb o e => S.keep b o e (fun L => ?_) fun hw => ?_
      · obtain ⟨o', e', _⟩ := hfix 0 h₂ st0 b hb
        rcases Sx.live R₂.len L with z | z
        · exact hnlf b hb z
        · rw [e'] at z; cases z
      · obtain ⟨o', e', hf⟩ := hfix 0 h₂ st0 b hb
        have hb2 : (∃ es n, o'.data = .dict es n) ∨ ∃ w, o'.data = .cell w := by
          rcases hw with rfl | ⟨z, hz⟩
          · obtain ⟨mm, ⟨o'', es, ep, ho', hd, _⟩, _⟩ := F₂.ns
            rw [e'] at ho'; cases ho'
            exact .inl ⟨_, _, hd⟩
          · obtain ⟨w, o'', ho', hd⟩ := F₂.cells z b hz
            rw [e'] at ho'; cases ho'
            exact .inr ⟨_, hd⟩
        rcases hf with ⟨xs, n, hf⟩ | ⟨⟨fs, hf⟩, _⟩ <;> rcases hb2 with ⟨_, _, hb2⟩ | ⟨_, hb2⟩ <;> rw [hf] at hb2 <;> cases hb2
    have st₄ : St (j + 1) h₄ := frm T₃ S₄ hst₃
    have hdrop : items.drop j = u :: items.drop (j + 1) := by
      have hjl : j < items.length := by rw [← eN]; exact hlt
      rw [List.drop_eq_getElem_cons hjl]
      rw [List.getElem?_eq_getElem hjl] at eu
      rw [Option.some.inj eu]
    rw [hdrop] at hgk
    rw [forGo_cons] at hgk
    obtain ⟨⟨qf, qΓ⟩, σ₅, h5, hgk⟩ := bind_eq_ok hgk
    refine wpAny_mono (hB a b env tbl (Γk.set i u) σk _ σ₅ A _ φk _ ho (by rw [List.length_set, ek]; exact c2) h5 hr R₄ F₄) (fun fl s₅ P₅ => ?_) fun _ _ e => e
    obtain ⟨φ₅, h₅, tk₅, rfl, R₅, S₅, F₅, hn₅, f₅⟩ := P₅
    have hn₅' : qΓ.length = (Γk.set i u).length := hn₅
    rw [List.length_set, ek] at hn₅'
    have T₅ : Stp (fun b => own env b ∨ b = I) σ₂ φ₁ h₂ σ₅ φ₅ h₅ := T₄.trans (S₅.weaken fun b hb => .inl hb) R₂.len
    cases f₅ with
    | next => exact ⟨N + 1 - (j + 1), Nat.sub_lt_sub_left (Nat.lt_succ_of_lt hlt) (Nat.lt_succ_self j), .mk φ₅ h₅ tk₅ σ₅ qΓ (j + 1) R₅ T₅ (frm T₄ S₅ st₄) F₅ hn₅' hgk hlt rfl⟩
    | ret r =>
      cases hgk
      exact ⟨φ₅, h₅, tk₅, rfl, R₅, fin T₅, F₅, hn₅', .ret r⟩
  · have hjn : j = N := Nat.le_antisymm hj (Nat.le_of_not_lt hlt)
    subst hjn
    have hd : items.drop j = [] := List.drop_eq_nil_of_le (Nat.le_of_eq eN.symm)
    rw [hd] at hgk
    cases hgk
    refine W.done _ _ _ stk fun h₃ tk₃ hk₃ => ?_
    have hk₃' : ∀ b o, b ≠ I → hk.get? b = some o → h₃.get? b = some o := fun b o hb e => hk₃ b o (fun hw => hb (hwr b hw)) e
    refine wpAny_execs_nil ⟨φk, h₃, tk₃, rfl, Rk.lose g1 (apI j hk stk) (hnk Sk) g2 g3 hk₃', (fin Sk).lose hI0 hk₃', Fk.monoq Rk (Stq.one hk₃') (apI j hk stk) (fun q => ownI _ (.inl rfl) q) (fun y c hc q => ownI c (.inr ⟨y, hc⟩) q), ek, .next⟩

theorem simS (ok : C.Ok) (hcs : CallSims C d) : ∀ n, SS C d n ∧ SB C d n
  | 0 => by
    refine ⟨?_, ?_⟩
    · intro st x env tbl Γ σ p σ' A s φ E ho hc; exact no_true hc
    · intro st x env tbl Γ σ p σ' A s φ E ho hc; exact no_true hc
  | n + 1 => by
    obtain ⟨hS, hB⟩ := simS ok hcs n
    have H := sims d n C ok hcs
    refine ⟨?_, sB_succ hS hB⟩
    intro st x env tbl Γ σ p σ' A s φ E ho hc he hr R F
    cases x with
    | expr x =>
      replace hc := on_exprS (show onExprS st (fun e => !compOf e && chkE C.N n env.scope.names tbl Γ.length e x) = true from hc)
      obtain ⟨e, q, rfl, hc⟩ := hc
      have hc := both hc
      exact sS_expr H ho (Bool.not_eq_true' _ ▸ hc.1) hc.2 he hr R F
    | ret x =>
      replace hc := on_return (show onReturn st (fun o => onO o fun e => chkE C.N n env.scope.names tbl Γ.length e x) = true from hc)
      obtain ⟨o, q, rfl, hc⟩ := hc
      replace hc := on_o hc
      obtain ⟨e, rfl, hc⟩ := hc
      exact sS_ret H hc he hr R F
    | asg i x =>
      replace hc := on_assign (show onAssign st (fun t e => on1 t fun t => onName t fun id => stoOk env.scope.names tbl id i && ((!compOf e || isComp x) && chkE C.N n env.scope.names tbl Γ.length e x)) = true from hc)
      obtain ⟨ts, e, q, rfl, hc⟩ := hc
      replace hc := on_1 hc
      obtain ⟨t, rfl, hc⟩ := hc
      replace hc := on_name hc
      obtain ⟨id, q', rfl, hc⟩ := hc
      have hc := both hc
      exact sS_asg ok hcs ho hc.1 (both hc.2).1 (both hc.2).2 he hr R F
    | sto xo xi xe =>
      replace hc := on_assign (show onAssign st (fun t e => on1 t fun t => onSub t fun o i => !compOf e && (chkE C.N n env.scope.names tbl Γ.length e xe && (chkE C.N n env.scope.names tbl Γ.length o xo && chkE C.N n env.scope.names tbl Γ.length i xi))) = true from hc)
      obtain ⟨ts, e, q, rfl, hc⟩ := hc
      replace hc := on_1 hc
      obtain ⟨t, rfl, hc⟩ := hc
      replace hc := on_sub hc
      obtain ⟨o, i, q', rfl, hc⟩ := hc
      have hc := both hc
      have hd := both (both hc.2).2
      exact sS_sto H (Bool.not_eq_true' _ ▸ hc.1) (both hc.2).1 hd.1 hd.2 he hr R F
    | ite c x y =>
      replace hc := on_if (show onIf st (fun t a b => tstOk t c && (chkE C.N n env.scope.names tbl Γ.length t c && (chkB C.N n env.scope.names tbl Γ.length a x && chkB C.N n env.scope.names tbl Γ.length b y))) = true from hc)
      obtain ⟨t, a, b, q, rfl, hc⟩ := hc
      have hc := both hc
      have hd := both (both hc.2).2
      exact sS_ite H hB ho hc.1 (both hc.2).1 hd.1 hd.2 he hr R F
    | «while» c x =>
      replace hc := on_while (show onWhile st (fun t a b => nilL b && (tstOk t c && (chkE C.N n env.scope.names tbl Γ.length t c && chkB C.N n env.scope.names tbl Γ.length a x))) = true from hc)
      obtain ⟨t, a, b, q, rfl, hc⟩ := hc
      have hc := both hc
      rw [nilL_eq hc.1]
      have hd := both (both hc.2).2
      exact sS_while H hB ho (both hc.2).1 hd.1 hd.2 he hr R F
    | «for» i ik x y bd =>
      replace hc := on_for (show onFor st (fun t e a b => nilL b && onName t fun id => stoOk env.scope.names tbl id i && (chkI C.N n env.scope.names tbl Γ.length e ik x y && chkB C.N n env.scope.names tbl Γ.length a bd)) = true from hc)
      obtain ⟨t, e, a, b, q, rfl, hc⟩ := hc
      replace hc := both hc
      obtain ⟨hb, hc⟩ := hc
      rw [nilL_eq hb]
      replace hc := on_name hc
      obtain ⟨id, q', rfl, hc⟩ := hc
      have hc := both hc
      exact sS_for H hB ho hc.1 (both hc.2).1 (both hc.2).2 he hr R F
    | raise c => cases he
    | «try» a b => exact no_true hc
end
end Mine

namespace Mine
open PySem PyProof.Rows PySem.Calls

theorem lookup_zip {α : Type} : ∀ {ps : List Str} {vals : List α}, ps.Nodup → vals.length = ps.length → ∀ {i : Nat} {x : Str}, ps[i]? = some x → (ps.zip vals).lookup x = vals[i]?
  | [], _, _, _, i, x, h => by simp at h
  | p :: ps, [], _, hl, _, _, _ => by simp at hl
  | p :: ps, v :: vals, hn, hl, i, x, h => by
    rw [List.zip_cons_cons, List.lookup_cons]
    cases i with
    | zero =>
      simp at h; subst h; simp
    | succ i =>
      have hx : ps[i]? = some x := by simpa using h
      have hne : (x == p) = false := by
        cases hb : x == p with
        | false => rfl
        | true =>
          rw [beq_iff_eq.mp hb] at hx
          exact ((List.nodup_cons.mp hn).1 (List.mem_of_getElem? hx)).elim
      rw [hne]
      show (ps.zip vals).lookup x = vals[i]?
      exact lookup_zip (List.nodup_cons.mp hn).2 (by simpa using hl) hx

theorem filterMap_zip {α : Type} {ps : List Str} {vals : List α} (hn : ps.Nodup) (hl : vals.length = ps.length) : (ps.filterMap fun n => ((ps.zip vals).lookup n).map (n, ·)) = ps.zip vals := by
  have key : ∀ (qs : List Str) (ws : List α), qs.length = ws.length → (∀ (i : Nat) (x : Str), qs[i]? = some x → (ps.zip vals).lookup x = ws[i]?) → (qs.filterMap fun n => ((ps.zip vals).lookup n).map (n, ·)) = qs.zip ws := by
    intro qs
    induction qs with
    | nil => intro ws _ _; rfl
    | cons q qs ih =>
      intro ws hw hh
      cases ws with
      | nil => simp at hw
      | cons w ws =>
        have h0 := hh 0 q rfl
        rw [List.filterMap_cons, h0]
        simp only [List.getElem?_cons_zero, Option.map_some, List.zip_cons_cons]
        rw [ih ws (by simpa using hw) fun i x e => by simpa using hh (i + 1) x (by simpa using e)]
  exact key ps vals hl.symm fun i x e => lookup_zip hn hl e

theorem bindArgs_eq {fd : FuncData} {vals : List Value} (h1 : fd.params.posonlyargs = []) (h2 : fd.params.kwonlyargs = []) (h3 : fd.params.vararg = none) (h4 : fd.params.kwarg = none) (h5 : fd.defaults = .none)
    (hn : (fd.params.args.map (·.arg)).Nodup) (hl : vals.length = (fd.params.args.map (·.arg)).length) : bindArgs fd ⟨vals, []⟩ = pure ((fd.params.args.map (·.arg)).zip vals) := by
  have e : seqItems? Value.none = (pure none : Sem (Option (Array Value))) := rfl
  have hmiss : (List.filter (fun n => (List.lookup n ((fd.params.args.map (·.arg)).zip vals)).isNone) (fd.params.args.map (·.arg))) = [] := by
    rw [List.filter_eq_nil_iff]
    intro x hx
    obtain ⟨i, hi⟩ := List.getElem?_of_mem hx
    rw [lookup_zip hn hl hi, List.getElem?_eq_getElem (by rw [hl]; exact (List.getElem?_eq_some_iff.mp hi).1)]
    simp
  have hg : ¬ vals.length > (fd.params.args.map (·.arg)).length := by omega
  have hf := filterMap_zip hn hl
  unfold bindArgs
  simp only [h1, h2, h3, h4, h5, e, List.map_nil, List.nil_append, List.append_nil, List.forIn_nil, pure_bind, Option.getD_none, hg, if_false, List.drop_nil, List.length_nil, Nat.sub_zero, List.take_length, hmiss, List.isEmpty_nil, Bool.not_true, Bool.false_eq_true, List.drop_length, List.zip_nil_right, hf, decide_false, Bool.false_and]

/-- the frame's slots behind a call -/
theorem getV_args {args : List V} {k i : Nat} {v : V} (h : getV (args ++ List.replicate k .undef) i = some v) : args[i]? = some v := by
  unfold getV at h
  by_cases hi : i < args.length
  · rw [List.getElem?_append_left hi] at h
    split at h
    · cases h
    · exact h
  · rw [List.getElem?_append_right (Nat.le_of_not_lt hi)] at h
    by_cases hk : i - args.length < k
    · rw [List.getElem?_replicate_of_lt hk] at h; cases h
    · rw [List.getElem?_eq_none (by rw [List.length_replicate]; omega)] at h; simp at h

theorem bindL_zip {kindOf : Str → Option NameKind} {α : Type} : ∀ {ps : List Str} {vals : List Value} {m : Str → Option Value}, ps.Nodup → vals.length = ps.length → ∀ {i : Nat} {x : Str}, ps[i]? = some x → kindOf x = some .local → bindL kindOf (ps.zip vals) m x = vals[i]?
  | [], _, _, _, _, i, x, h, _ => by simp at h
  | p :: ps, [], _, _, hl, _, _, _, _ => by simp at hl
  | p :: ps, v :: vals, m, hn, hl, i, x, h, hk => by
    rw [List.zip_cons_cons, bindL]
    cases i with
    | zero =>
      simp at h; subst h
      have keep : ∀ (ps : List Str) (vals : List Value) (m : Str → Option Value), p ∉ ps → m p = some v → bindL kindOf (ps.zip vals) m p = some v := by
        intro ps
        induction ps with
        | nil => intro vals m _ hm; simpa [bindL] using hm
        | cons q ps ih =>
          intro vals m hq hm
          cases vals with
          | nil => simpa [bindL] using hm
          | cons w vals =>
            rw [List.zip_cons_cons, bindL]
            refine ih vals _ (fun h => hq (List.mem_cons_of_mem _ h)) ?_
            split
            · have : p ≠ q := fun e => hq (e ▸ List.mem_cons_self)
              simp [this, hm]
            · exact hm
      rw [if_pos hk]
      simpa using keep ps vals _ (List.nodup_cons.mp hn).1 (by simp)
    | succ i => exact bindL_zip (α := α) (List.nodup_cons.mp hn).2 (by simpa using hl) (by simpa using h) hk

theorem bindC_zip {kindOf : Str → Option NameKind} : ∀ {ps : List Str} {vals : List Value} {m : Str → Option Value}, ps.Nodup → vals.length = ps.length → ∀ {i : Nat} {x : Str}, ps[i]? = some x → kindOf x ≠ some .local → bindC kindOf (ps.zip vals) m x = vals[i]?
  | [], _, _, _, _, i, x, h, _ => by simp at h
  | p :: ps, [], _, _, hl, _, _, _, _ => by simp at hl
  | p :: ps, v :: vals, m, hn, hl, i, x, h, hk => by
    rw [List.zip_cons_cons, bindC]
    cases i with
    | zero =>
      simp at h; subst h
      have keep : ∀ (ps : List Str) (vals : List Value) (m : Str → Option Value), p ∉ ps → m p = some v → bindC kindOf (ps.zip vals) m p = some v := by
        intro ps
        induction ps with
        | nil => intro vals m _ hm; simpa [bindC] using hm
        | cons q ps ih =>
          intro vals m hq hm
          cases vals with
          | nil => simpa [bindC] using hm
          | cons w vals =>
            rw [List.zip_cons_cons, bindC]
            refine ih vals _ (fun h => hq (List.mem_cons_of_mem _ h)) ?_
            split
            · exact hm
            · have : p ≠ q := fun e => hq (e ▸ List.mem_cons_self)
              simp [this, hm]
      rw [if_neg hk]
      simpa using keep ps vals _ (List.nodup_cons.mp hn).1 (by simp)
    | succ i => exact bindC_zip (List.nodup_cons.mp hn).2 (by simpa using hl) (by simpa using h) hk

theorem keys_cells : ∀ {n : Nat} {names : List (Str × NameKind)} {acc : List (Str × Addr)}, (names.map (·.1)).Nodup → (acc.map (·.1)).Nodup → (∀ x ∈ names.map (·.1), x ∉ acc.map (·.1)) → ((cellsFrom n names acc).map (·.1)).Nodup
  | _, [], acc, _, h, _ => h
  | n, (y, k) :: r, acc, hn, ha, hd => by
    unfold cellsFrom
    have hn' : y ∉ r.map (·.1) ∧ (r.map (·.1)).Nodup := List.nodup_cons.mp hn
    split
    · refine keys_cells hn'.2 (List.nodup_cons.mpr ⟨hd y (by simp), ha⟩) fun x hx hm => ?_
      rcases List.mem_cons.mp hm with q | q
      · exact hn'.1 ((show x = y from q) ▸ hx)
      · exact hd x (List.mem_cons_of_mem _ hx) q
    · exact keys_cells hn'.2 ha fun x hx => hd x (List.mem_cons_of_mem _ hx)

theorem lookup_of_mem {α : Type} : ∀ {l : List (Str × α)} {x : Str} {c : α}, (l.map (·.1)).Nodup → (x, c) ∈ l → l.lookup x = some c
  | (k, v) :: r, x, c, hn, h => by
    have hn' : k ∉ r.map (·.1) ∧ (r.map (·.1)).Nodup := List.nodup_cons.mp hn
    rw [List.lookup_cons]
    rcases List.mem_cons.mp h with q | q
    · cases q; simp
    · have : (x == k) = false := by
        cases hb : x == k with
        | false => rfl
        | true => rw [beq_iff_eq.mp hb] at q; exact (hn'.1 (List.mem_map.mpr ⟨_, q, rfl⟩)).elim
      rw [this]; exact lookup_of_mem hn'.2 q

theorem has_cells : ∀ {n : Nat} {names : List (Str × NameKind)} {acc : List (Str × Addr)} {y : Str}, ((y, NameKind.cell) ∈ names ∨ ∃ c, (y, c) ∈ acc) → ∃ c, (y, c) ∈ cellsFrom n names acc
  | _, [], acc, y, h => by
    rcases h with h | h
    · cases h
    · exact h
  | n, (z, k) :: r, acc, y, h => by
    unfold cellsFrom
    split
    · refine has_cells ?_
      rcases h with h | ⟨c, h⟩
      · rcases List.mem_cons.mp h with q | q
        · cases q; exact .inr ⟨_, List.mem_cons_self⟩
        · exact .inl q
      · exact .inr ⟨c, List.mem_cons_of_mem _ h⟩
    · rename_i hk
      refine has_cells ?_
      rcases h with h | ⟨c, h⟩
      · rcases List.mem_cons.mp h with q | q
        · cases q; exact (hk rfl).elim
        · exact .inl q
      · exact .inr ⟨c, h⟩
end Mine

namespace Mine
open PySem PyProof.Rows PySem.Calls

noncomputable def memS (x : Str) : List Str → Bool
  | [] => false
  | y :: r => eqS x y || memS x r
noncomputable def nodupS : List Str → Bool
  | [] => true
  | x :: r => !memS x r && nodupS r
theorem memS_of {x : Str} : ∀ {l : List Str}, x ∈ l → memS x l = true
  | y :: r, h => by
    rcases List.mem_cons.mp h with q | q
    · rw [memS, q, eqS_iff.mpr rfl]; rfl
    · rw [memS, memS_of q, Bool.or_true]
theorem nodupS_of : ∀ {l : List Str}, nodupS l = true → l.Nodup
  | [], _ => List.nodup_nil
  | x :: r, h => by
    rw [nodupS, Bool.and_eq_true, Bool.not_eq_true'] at h
    exact List.nodup_cons.mpr ⟨fun hm => (by rw [memS_of hm] at h; cases h.1), nodupS_of h.2⟩

noncomputable def noneO {α : Type} : Option α → Bool
  | none => true
  | _ => false
noncomputable def firsts (tbl : List (Str × Nat)) : Nat → List Str → Bool
  | _, [] => true
  | i, p :: r => (match lkS tbl p with | some j => i == j | none => false) && firsts tbl (i + 1) r
noncomputable def asc : Nat → List (Str × Nat) → Bool
  | _, [] => true
  | i, (_, j) :: r => i == j && asc (i + 1) r

/-- a def of the text is this Def -/
noncomputable def chkDef (N : Nm) (fuel : Nat) (params : Arguments) (body : List Stmt) (scope : Scope) (D : Def) (tbl : List (Str × Nat)) : Bool :=
  nilL params.posonlyargs && nilL params.kwonlyargs && noneO params.vararg && noneO params.kwarg && isFn scope.kind && !scope.isCoroutine && !scope.isGenerator &&
  nodupS (params.args.map (·.arg)) && nodupS (scope.names.map (·.1)) && nodupS (tbl.map (·.1)) && asc 0 tbl && (params.args.map (·.arg)).length == D.np && decide (D.np ≤ D.nl) && firsts tbl 0 (params.args.map (·.arg)) &&
  (params.args.map (·.arg)).all (fun p => isLoc (lkS scope.names p) || isCel (lkS scope.names p)) && chkB N fuel scope.names tbl D.nl body D.body

structure DefFacts (N : Nm) (params : Arguments) (body : List Stmt) (scope : Scope) (D : Def) (tbl : List (Str × Nat)) : Prop where
  p1 : params.posonlyargs = []
  p2 : params.kwonlyargs = []
  p3 : params.vararg = none
  p4 : params.kwarg = none
  fn : scope.kind = .function
  co : scope.isCoroutine = false
  ge : scope.isGenerator = false
  np : (params.args.map (·.arg)).Nodup
  ns : (scope.names.map (·.1)).Nodup
  inj : TInj tbl
  len : (params.args.map (·.arg)).length = D.np
  le : D.np ≤ D.nl
  first : ∀ (i : Nat) (x : Str), (params.args.map (·.arg))[i]? = some x → tbl.lookup x = some i
  kinds : ∀ x ∈ params.args.map (·.arg), scope.names.lookup x = some .local ∨ scope.names.lookup x = some .cell
  body : ∃ fuel, chkB N fuel scope.names tbl D.nl body D.body = true

theorem noneO_eq {α : Type} {l : Option α} (h : noneO l = true) : l = none := by cases l with | none => rfl | some _ => cases h

theorem firsts_eq {tbl : List (Str × Nat)} : ∀ {ps : List Str} {i : Nat}, firsts tbl i ps = true → ∀ (j : Nat) (x : Str), ps[j]? = some x → tbl.lookup x = some (i + j)
  | [], _, _, j, x, h => by simp at h
  | p :: r, i, hf, j, x, h => by
    rw [firsts, Bool.and_eq_true] at hf
    cases j with
    | zero =>
      simp at h; subst h
      have := hf.1
      rw [← lkS_eq]
      cases hl : lkS tbl p with
      | none => rw [hl] at this; cases this
      | some j => rw [hl] at this; simp at this; rw [this]; rfl
    | succ j =>
      have := firsts_eq hf.2 j x (by simpa using h)
      rw [this]; congr 1; omega

theorem asc_eq : ∀ {tbl : List (Str × Nat)} {i : Nat}, asc i tbl = true → ∀ (k : Nat) (p : Str × Nat), tbl[k]? = some p → p.2 = i + k
  | [], _, _, k, p, h => by simp at h
  | (x, j) :: r, i, ha, k, p, h => by
    rw [asc, Bool.and_eq_true, beq_iff_eq] at ha
    cases k with
    | zero => simp at h; subst h; exact ha.1.symm
    | succ k =>
      have := asc_eq ha.2 k p (by simpa using h)
      omega

theorem TInj.of {tbl : List (Str × Nat)} (h : asc 0 tbl = true) : TInj tbl := by
  intro x y i hx hy
  obtain ⟨k, hk⟩ := List.getElem?_of_mem (mem_of_lookup hx)
  obtain ⟨l, hl⟩ := List.getElem?_of_mem (mem_of_lookup hy)
  have e1 := asc_eq h k _ hk
  have e2 := asc_eq h l _ hl
  have : k = l := by
    simp only at e1 e2
    omega
  subst this
  rw [hk] at hl
  cases hl
  rfl

theorem DefFacts.of {N : Nm} {fuel : Nat} {params : Arguments} {body : List Stmt} {scope : Scope} {D : Def} {tbl : List (Str × Nat)} (h : chkDef N fuel params body scope D tbl = true) : DefFacts N params body scope D tbl := by
  unfold chkDef at h
  simp only [Bool.and_eq_true, Bool.not_eq_true', decide_eq_true_eq, beq_iff_eq] at h
  obtain ⟨⟨⟨⟨⟨⟨⟨⟨⟨⟨⟨⟨⟨⟨⟨h1, h2⟩, h3⟩, h4⟩, h5⟩, h6⟩, h7⟩, h8⟩, h9⟩, h10⟩, h11⟩, h12⟩, h13⟩, h14⟩, h15⟩, h16⟩ := h
  refine ⟨nilL_eq h1, nilL_eq h2, noneO_eq h3, noneO_eq h4, isFn_eq h5, h6, h7, nodupS_of h8, nodupS_of h9, TInj.of h11, h12, h13, fun i x e => by simpa using firsts_eq h14 i x e, fun x hx => ?_, ⟨fuel, h16⟩⟩
  have := all_mem h15 hx
  rw [Bool.or_eq_true, lkS_eq] at this
  exact this.elim (fun q => .inl (isLoc_eq q)) fun q => .inr (isCel_eq q)

/-- the text's defs stand in the heap and are the Defs -/
noncomputable def DefsOk (C : Cx) : Prop := ∀ (f : Nat) (D : Def), C.P[f]? = some D → ∃ y a o params body scope pm code doc tbl, C.N.fns[f]? = some y ∧ C.mg y = some (.ref a) ∧ C.B.hb.get? a = some o ∧
  o.data = .func (docDef y params body scope pm code doc) ∧ C.B.hb.CodeRec code y ∧ DefFacts C.N params body scope D tbl

section
variable {C : Cx} {d : Nat}

theorem VRs.len {B : Bs} {σ : Sg} {φ : List Addr} {h : Heap} {xs : List V} {vs : List Value} (r : VRs B σ φ h xs vs) : vs.length = xs.length := r.length

theorem callSim_succ (ok : C.Ok) (dk : DefsOk C) (hcs : CallSims C d) : CallSim C (d + 1) := by
  intro f y a vs σ v σ' he hy ha A s φ cvs E hr R rs
  unfold callF at he
  split at he
  case h_2 => cases he
  rename_i D hD
  split at he
  case isFalse => cases he
  rename_i hlen
  obtain ⟨p, σ₁, h1, he⟩ := bind_eq_ok he
  cases he
  obtain ⟨y', a', o, params, body, scope, pm, code, doc, tbl, e1, e2, e3, e4, e5, X⟩ := dk f D hD
  rw [hy] at e1; cases e1
  rw [ha] at e2; cases e2
  obtain ⟨fuel, hb⟩ := X.body
  have hvl : cvs.length = (params.args.map (·.arg)).length := by rw [rs.length, hlen, X.len]
  have hroom : A.depth < recursionLimit := by have := hr.dep; omega
  have R' := R
  refine wpAny_call (call_cells (R := fun r s' => match r with | .ok (.ret v') => Post C.B s σ φ σ' (flV p.1) v' s' | .ok _ => False | .error e => E e s') hroom (R.based _ _ e3) e4 (ok.nolimit.keeps R.based) (e5.keeps R.based)
    (bindArgs_eq (fd := docDef y params body scope pm code doc) X.p1 X.p2 X.p3 X.p4 rfl X.np hvl) (fun x hx => ?_) (fun h₁ tk Fr₁ Cl₁ => ?_) X.co X.ge X.fn)
  · have hx1 : x.1 ∈ params.args.map (·.arg) := (List.of_mem_zip (a := x.1) (b := x.2) hx).1
    rcases X.kinds x.1 hx1 with q | q
    · exact .inl q
    · refine .inr ⟨q, ?_⟩
      obtain ⟨c, hc⟩ := has_cells (n := s.heap.objs.size + 1) (acc := []) (.inl (mem_of_lookup q))
      obtain ⟨c', hc'⟩ := lookup_has hc
      rw [hc']; rfl
  · have R₁ : SR C.B σ φ h₁ := R.grow Fr₁.keep
    have rs₁ : VRs C.B σ φ h₁ vs cvs := rs.grow R Fr₁.keep
    have hNd : ((cellsFrom (s.heap.objs.size + 1) scope.names []).map (·.1)).Nodup := keys_cells X.ns List.nodup_nil (fun _ _ hx => by cases hx)
    have gone : ∀ b, s.heap.objs.size ≤ b → s.heap.get? b = none := fun b hb => by
      cases e : s.heap.get? b with
      | none => rfl
      | some o => exact absurd (Heap.lt_size e) (Nat.not_lt.mpr hb)
    have goneB : ∀ b, s.heap.objs.size ≤ b → C.B.hb.get? b = none := fun b hb => by
      cases e : C.B.hb.get? b with
      | none => rfl
      | some o => have := R.based b o e; rw [gone b hb] at this; cases this
    have arg : ∀ x i u, tbl.lookup x = some i → getV (vs ++ List.replicate (D.nl - D.np) V.undef) i = some u → (params.args.map (·.arg))[i]? = some x ∧ ∃ cu, cvs[i]? = some cu ∧ VR C.B σ φ h₁ u cu := by
      intro x i u e6 e7
      have e8 := getV_args e7
      obtain ⟨cu, e9, e10⟩ := rs₁.get e8
      have hi : i < (params.args.map (·.arg)).length := by rw [← hvl]; exact (List.getElem?_eq_some_iff.mp e9).1
      have e11 := X.first i _ (List.getElem?_eq_getElem hi)
      have : (params.args.map (·.arg))[i] = x := X.inj _ _ i e11 e6
      exact ⟨by rw [List.getElem?_eq_getElem hi, this], cu, e9, e10⟩
    have F₁ : FR C.B tbl (envOfC y scope s.heap.objs.size a code) (vs ++ List.replicate (D.nl - D.np) V.undef) σ φ h₁ := by
      refine ⟨X.fn, rfl, rfl, ⟨_, Fr₁.ns, fun x i u e6 e7 e8 => ?_⟩, fun x i u e6 e7 e8 => ?_, fun L => ?_, fun x c hc => ?_, goneB _ (Nat.le_refl _), fun x c hc => goneB _ (Nat.le_of_lt (Cl₁.above x c hc)), fun x e6 => ?_⟩
      · obtain ⟨e9, cu, e10, e11⟩ := arg x i u e6 e7
        exact ⟨cu, (bindL_zip (α := Unit) X.np hvl e9 e8).trans e10, e11⟩
      · obtain ⟨e9, cu, e10, e11⟩ := arg x i u e6 e7
        have e12 : scope.names.lookup x = some .cell := by
          rcases e8 with e8 | e8
          · exact e8
          · rcases X.kinds x (List.mem_of_getElem? e9) with q | q
            · have e8 : scope.names.lookup x = some .free := e8
              rw [q] at e8; cases e8
            · exact q
        obtain ⟨c, hc⟩ := has_cells (n := s.heap.objs.size + 1) (acc := []) (.inl (mem_of_lookup e12))
        have hc' := lookup_of_mem hNd hc
        refine ⟨c, cu, hc', ?_, e11⟩
        have := Cl₁.cell x c hc'
        rw [show (docDef y params body scope pm code doc).params = params from rfl] at this
        rw [bindC_zip X.np hvl e9 (by show scope.names.lookup x ≠ _; rw [e12]; intro q; cases q), e10] at this
        exact this
      · obtain ⟨o, e⟩ := R.ex _ L.mem
        have e : s.heap.get? s.heap.objs.size = some o := e
        rw [gone _ (Nat.le_refl _)] at e; cases e
      · exact ⟨_, Cl₁.cell x c (lookup_of_mem hNd hc)⟩
      · obtain ⟨c, hc⟩ := has_cells (n := s.heap.objs.size + 1) (acc := []) (.inl (mem_of_lookup e6))
        show ((cellsFrom (s.heap.objs.size + 1) scope.names []).lookup x).isSome = true
        rw [lookup_of_mem hNd hc]; rfl
    have hΓ : (vs ++ List.replicate (D.nl - D.np) V.undef).length = D.nl := by
      rw [List.length_append, List.length_replicate, hlen]
      have := X.le; omega
    have hr' : Room d (A.deeper (envOfC y scope s.heap.objs.size a code)) := ⟨hr.hh, by have := hr.dep; show A.depth + 1 + d ≤ _; omega, by have := hr.un; rw [Around.deeper_units]; omega⟩
    refine wpAny_mono ((simS ok hcs fuel).2 body D.body (envOfC y scope s.heap.objs.size a code) tbl _ σ p σ' _ { s with heap := h₁, toks := tk } φ _ ⟨X.inj, Cl₁.apart, ?_⟩ (by rw [hΓ]; exact hb) h1 hr' R₁ F₁) (fun fl s₂ P => ?_) fun _ _ e => e
    · show (scope.kind == .module && _) = false
      rw [X.fn]; rfl
    · obtain ⟨φ₂, h₂, tk₂, rfl, R₂, S₂, F₂, hn₂, f₂⟩ := P
      have own0 : ∀ b, own (envOfC y scope s.heap.objs.size a code) b → s.heap.get? b = none := by
        rintro b (rfl | ⟨x, hx⟩)
        · exact gone _ (Nat.le_refl _)
        · exact gone _ (Nat.le_of_lt (Cl₁.above x b hx))
      have S : Stp W0 σ φ s.heap σ' φ₂ h₂ := (Stp.trans (Stp.grow Fr₁.keep) S₂ R.len).drop own0
      obtain ⟨pf, pΓ⟩ := p
      cases f₂ with
      | next => exact ⟨φ₂, h₂, tk₂, rfl, R₂, S, .none⟩
      | ret r => exact ⟨φ₂, h₂, tk₂, rfl, R₂, S, r⟩
end

theorem callSims : ∀ (d : Nat) (C : Cx), C.Ok → DefsOk C → CallSims C d
  | 0, _, _, _ => fun av f y a vs σ v σ' he => by unfold callF at he; cases he
  | d + 1, C, ok, dk => fun av => callSim_succ (C := { C with B := { C.B with av := av } }) ⟨ok.g, ok.b, ok.nolimit, ok.bins, ok.glob, ok.fn⟩ dk fun av' => callSims d C ok dk av'
end Mine

namespace Mine
open PySem PyProof.Rows PySem.Calls

noncomputable def chkProg (N : Nm) (fuel : Nat) (recs : List DefRec) : List Str → List Def → List (List (Str × Nat)) → Bool
  | [], [], [] => true
  | y :: ys, D :: Ds, t :: ts => recs.any (fun r => eqS r.name y && chkDef N fuel r.params r.body r.scope D t) && chkProg N fuel recs ys Ds ts
  | _, _, _ => false

theorem chkProg_at {N : Nm} {fuel : Nat} {recs : List DefRec} : ∀ {ys : List Str} {Ds : List Def} {ts : List (List (Str × Nat))}, chkProg N fuel recs ys Ds ts = true → ∀ (f : Nat) (D : Def), Ds[f]? = some D →
    ∃ y t, ys[f]? = some y ∧ ∃ r ∈ recs, r.name = y ∧ chkDef N fuel r.params r.body r.scope D t = true
  | [], [], _, _, f, D, h => by simp at h
  | [], _ :: _, _, hc, _, _, _ => by simp [chkProg] at hc
  | _ :: _, [], _, _, _, _, h => by simp at h
  | _ :: _, _ :: _, [], hc, _, _, _ => by simp [chkProg] at hc
  | y :: ys, E :: Ds, t :: ts, hc, f, D, h => by
    rw [chkProg, Bool.and_eq_true] at hc
    cases f with
    | zero =>
      simp at h; subst h
      obtain ⟨r, hr, h2⟩ := List.any_eq_true.mp hc.1
      rw [Bool.and_eq_true] at h2
      exact ⟨y, t, rfl, r, hr, eqS_iff.mp h2.1, h2.2⟩
    | succ f =>
      obtain ⟨y', t', h1, h2⟩ := chkProg_at hc.2 f D (by simpa using h)
      exact ⟨y', t', by simpa using h1, h2⟩

/-- the built-ins' names are not bound by the text -/
noncomputable def freeNames (p : Program) (loose : List Str) : Bool :=
  bnames.all fun b => !memS b.1 startupNames && !memS b.1 loose && !memS b.1 ((recsOf p).map (·.name)) && !memS b.1 ((litsOf p).map (·.1)) && !memS b.1 ((clssOf p loose).map (·.name))

theorem not_memS {x : Str} {l : List Str} (h : (!memS x l) = true) : x ∉ l := fun hm => by rw [memS_of hm] at h; cases h

theorem boot_bnames : ∀ b ∈ bnames, bootBuiltins b.1 = some b.2 ∧ b.1 ≠ Str.ofString "__name__" := by
  intro b hb
  simp only [bnames, List.mem_cons, List.not_mem_nil, or_false] at hb
  rcases hb with rfl | rfl | rfl | rfl | rfl | rfl | rfl | rfl | rfl | rfl | rfl | rfl | rfl | rfl <;> refine ⟨by decide +kernel, by decide +kernel⟩

/-- written constants -/
noncomputable def isLit : V → PyData → Bool
  | .int i, .int j => i == j
  | .bool a, .bool b => a == b
  | .str s, .str t => t.cps.toList == s && s.length ≤ 1000
  | _, _ => false
noncomputable def chkGl (p : Program) : List Str → List V → Bool
  | [], [] => true
  | y :: ys, v :: vs => (match valOf p y with | some d => isLit v d | none => false) && chkGl p ys vs
  | _, _ => false

theorem isLit_VR {v : V} {d : PyData} {cv : Value} (h : isLit v d = true) (hr : ∀ h' : Heap, Reads h' cv d []) : ∀ B σ φ h, VR B σ φ h v cv := by
  intro B σ φ hh
  have r := hr hh
  cases v <;> cases d <;> try (cases h)
  · cases r; rename_i a b; rw [beq_iff_eq.mp h]; exact .bool _
  · cases r; rename_i a b t; rw [beq_iff_eq.mp h]; exact .int _ _
  · cases r
    rename_i s x t
    unfold isLit at h
    rw [Bool.and_eq_true, beq_iff_eq, decide_eq_true_eq] at h
    have e : x = ⟨s.toArray⟩ := by
      obtain ⟨⟨a⟩⟩ := x
      have := h.1
      simp at this
      rw [this]
    rw [e]
    exact .str s t (by have := h.2; unfold roomy; omega)

theorem chkGl_at {p : Program} : ∀ {ys : List Str} {vs : List V}, chkGl p ys vs = true → ∀ (g : Nat) (v : V), vs[g]? = some v → ∃ y d, ys[g]? = some y ∧ valOf p y = some d ∧ isLit v d = true
  | [], [], _, g, v, h => by simp at h
  | [], _ :: _, hc, _, _, _ => by simp [chkGl] at hc
  | _ :: _, [], _, _, _, h => by simp at h
  | y :: ys, u :: vs, hc, g, v, h => by
    rw [chkGl, Bool.and_eq_true] at hc
    cases g with
    | zero =>
      simp at h; subst h
      have := hc.1
      cases hd : valOf p y with
      | none => rw [hd] at this; cases this
      | some d => rw [hd] at this; exact ⟨y, d, rfl, hd, this⟩
    | succ g =>
      obtain ⟨y', d, h1, h2⟩ := chkGl_at hc.2 g v (by simpa using h)
      exact ⟨y', d, by simpa using h1, h2⟩

section
variable {prog : Program} {w : World} {s : Shared} {p : Program} {loose : List Str} {mean : ExcName → Option Value} {mg mb : Str → Option Value}

noncomputable def mkC (prog : Program) (w : World) (h : Heap) (mg mb : Str → Option Value) (N : Nm) (P : List Def) (gl : List V) : Cx := ⟨⟨prog, w, h, fun _ => none, fun _ => False⟩, mg, mb, N, P, gl⟩

theorem mkC_ok {N : Nm} {P : List Def} {gl : List V} {tbls : List (List (Str × Nat))} {fuel : Nat} (T : Top p loose mean mg mb s.heap) (hf : freeNames p loose = true) (hp : chkProg N fuel (recsOf p) N.fns P tbls = true) (hl : N.fns.length = P.length)
    (hg : chkGl p N.gns gl = true) : (mkC prog w s.heap mg mb N P gl).Ok ∧ DefsOk (mkC prog w s.heap mg mb N P gl) := by
  have dk : DefsOk (mkC prog w s.heap mg mb N P gl) := by
    intro f D hD
    obtain ⟨y, t, h1, r, hr, rfl, h2⟩ := chkProg_at hp f D hD
    obtain ⟨a, o, pm, code, doc, k1, k2, k3, k4⟩ := T.fn r hr
    exact ⟨r.name, a, o, r.params, r.body, r.scope, pm, code, doc, t, h1, k1, k2, k3, k4, DefFacts.of h2⟩
  refine ⟨⟨T.g, T.b, T.nolimit, fun b hb => ?_, fun g v hv => ?_, fun f y hy => ?_⟩, dk⟩
  · have := all_mem hf hb
    simp only [Bool.and_eq_true] at this
    obtain ⟨⟨⟨⟨h1, h2⟩, h3⟩, h4⟩, h5⟩ := this
    obtain ⟨h6, h7⟩ := boot_bnames b hb
    exact ⟨T.free b.1 (not_memS h1) (not_memS h2) (not_memS h3) (not_memS h4) (not_memS h5), (T.builtins b.1 h7).trans h6⟩
  · obtain ⟨y, d, h1, h2, h3⟩ := chkGl_at hg g v hv
    obtain ⟨cv, h4, h5⟩ := T.const y d h2
    exact ⟨y, cv, h1, h4, isLit_VR h3 h5⟩
  · have hlt : f < P.length := by rw [← hl]; exact (List.getElem?_eq_some_iff.mp hy).1
    obtain ⟨y', a, o, params, body, scope, pm, code, doc, t, h1, k1, k2, k3, _⟩ := dk f P[f] (List.getElem?_eq_getElem hlt)
    rw [h1] at hy
    cases hy
    exact ⟨a, o, _, k1, k2, k3⟩

theorem ints_VRs {B : Bs} {σ : Sg} {φ : List Addr} {h : Heap} {vs : List Value} {xs : List Int} (hi : IntsAre vs xs) : VRs B σ φ h (xs.map V.int) vs := by
  induction hi with
  | nil => exact .nil
  | cons n t _ ih => exact .cons (.int n t) ih

open PySem.W in
theorem well_ints {Q : Params} {h : Heap} : ∀ {vs : List Value} {xs : List Int}, WellAll Q h vs (ofPys (xs.map PyData.int)) → IntsAre vs xs
  | _, [], w => by
    cases w; exact .nil
  | _, x :: xs, w => by
    cases w with
    | cons a r => cases a with | int i t => exact .cons _ _ (well_ints r)
open PySem.W in
theorem well_script {Q : Params} {h : Heap} {a : Addr} {xs : List Int} (w : Well Q h (.ref a) (ofPy (.list (xs.map PyData.int)))) : ∃ vs : List Value, h.get? a = some { cls := .type "list", data := .seq vs.toArray } ∧ IntsAre vs xs := by
  have w' : Well Q h (.ref a) (.list (ofPys (xs.map PyData.int))) := w
  cases w' with
  | list e r => exact ⟨_, e, well_ints r⟩

open PySem.W in
theorem good_true {c : ClaimW} {cl : Str → Option Addr} {mean : ExcName → Option Value} {args : List WData} {s₁ s' : Shared} {v : Value} (hn : ∀ cls, c.raises args cls = false) (hp : c.post args (.bool true) args = true) (hg : s₁.gens = #[])
    (h : v = .bool true ∧ ∃ h' tk, s' = { s₁ with heap := h', toks := tk } ∧ ∀ b o, s₁.heap.get? b = some o → h'.get? b = some o) : GoodWG c cl mean args s₁ (.ok (.ret v)) s' := by
  obtain ⟨rfl, h', tk, rfl, hk⟩ := h
  exact ⟨.inl ⟨_, _, [], rfl, hn, .bool true, hp, fun _ => ⟨List.nodup_nil, fun a ha => by cases ha⟩⟩, .of_keep hk, rfl, .of_eq hg⟩

/-- the law's call gives True and leaves what stood -/
theorem law_run {N : Nm} {P : List Def} {gl : List V} {tbls : List (List (Str × Nat))} {fuel d f : Nat} {σ' : Sg} {fa a : Addr} {vs : List Value} {xs : List Int} {E : Value → Shared → Prop} (T : Top p loose mean mg mb s.heap) (hf : freeNames p loose = true)
    (hp : chkProg N fuel (recsOf p) N.fns P tbls = true) (hl : N.fns.length = P.length) (hg : chkGl p N.gns gl = true) (hn : N.fns[f]? = some (Str.ofString "law")) (hmg : mg (Str.ofString "law") = some (.ref fa)) (hd : d ≤ 600)
    (hli : s.heap.get? a = some { cls := .type "list", data := .seq vs.toArray }) (hi : IntsAre vs xs) (hx : xs.length ≤ 63) (he : callF gl P d f [.lst (xs.map V.int)] [] = .ok (.bool true) σ') :
    wpAny (model prog w) callerA (call (.ref fa) [.ref a]) (fun v s' => v = .bool true ∧ ∃ h' tk, s' = { s with heap := h', toks := tk } ∧ ∀ b o, s.heap.get? b = some o → h'.get? b = some o) E s := by
  obtain ⟨ok, dk⟩ := mkC_ok (prog := prog) (w := w) T hf hp hl hg
  have hcs := callSims d _ ok dk fun _ => False
  have R : SR (mkC prog w s.heap mg mb N P gl).B [] [] s.heap := by
    refine ⟨rfl, List.nodup_nil, fun a ha => (by cases ha), fun i xs e => (by simp at e), fun i xs e => (by simp at e), fun i xs e => (by simp at e), (let ⟨o, _, _, e, _⟩ := T.g; ⟨o, e⟩), fun a ha => (by cases ha), fun b o e => e, fun a ha => (by cases ha), fun b hb => hb.elim, fun a ha => (by cases ha)⟩
  refine wpAny_mono (hcs f (Str.ofString "law") fa [.lst (xs.map V.int)] [] (.bool true) σ' he hn hmg callerA s [] [.ref a] E ⟨rfl, ?_, ?_⟩ R (.cons (.lst (vs := vs) ⟨0, hli⟩ ⟨?_, fun x => x⟩ (ints_VRs hi) ?_) .nil)) (fun v s' P => ?_) fun _ _ e => e
  · show 1 + 300 + d ≤ 1000; omega
  · show 4 + 3 * d + 100 ≤ 9900; omega
  · rintro ⟨i, c, e, _⟩; simp at e
  · rw [List.length_map]; unfold roomy; omega
  · obtain ⟨φ', h', tk, rfl, R', S', r⟩ := P
    cases r
    refine ⟨rfl, h', tk, rfl, fun b o e => S'.keep b o e ?_ fun x => x⟩
    rintro ⟨i, c, e, _⟩; simp at e
end
end Mine

namespace Mine
/-- _law_cell_at(_law_script, _law_k), index 0 -/
noncomputable def d_l_cell_at : Def := ⟨2, 2,
  [.ite (.cmp .lt (.var 1) (.bi .len [(.var 0)]))
     [.ret (.idx (.var 0) (.var 1))]
     [],
   .ret (.cInt 0)]⟩
/-- _law_sign_by(_law_cell), index 1 -/
noncomputable def d_l_sign_by : Def := ⟨1, 2,
  [.asg 1 (.cStr [32, 33, 34, 35, 36, 38, 39, 40, 41, 42, 43, 44, 45, 46, 47, 48, 49, 50, 51, 52, 53, 54, 55, 56, 57, 58, 59, 60, 61, 62, 63, 64, 65, 66, 67, 68, 69, 70, 71, 72, 73, 74, 75, 76, 77, 78, 79, 80, 81, 82, 83, 84, 85, 86, 87, 88, 89, 90, 91, 92, 93, 94, 95, 96]),
   .asg 1 (.bin .add (.var 1) (.cStr [97, 98, 99, 100, 101, 102, 103, 104, 105, 106, 107, 108, 109, 110, 111, 112, 113, 114, 115, 116, 117, 118, 119, 120, 121, 122, 123, 124, 125, 126, 10, 9])),
   .ret (.idx (.var 1) (.bin .mod (.var 0) (.cInt 96)))]⟩
/-- _law_three_by(_law_cell), index 2 -/
noncomputable def d_l_three_by : Def := ⟨1, 1,
  [.ret (.bin .add (.bin .add (.call 1 [(.var 0)]) (.call 1 [(.bin .add (.var 0) (.cInt 31))])) (.call 1 [(.bin .add (.var 0) (.cInt 62))]))]⟩
/-- bare(tree), index 10 -/
noncomputable def d_bare : Def := ⟨1, 2,
  [.ite (.cmp .eq (.idx (.var 0) (.cInt 0)) (.cStr [116, 97, 107, 101]))
     [.ret (.cBool false)]
     [],
   .ite (.cmp .eq (.idx (.var 0) (.cInt 0)) (.cStr [114, 111, 119]))
     [.for 1 .val (.idx (.var 0) (.cInt 1)) .cNone
        [.ite (.not (.call 10 [(.var 1)]))
           [.ret (.cBool false)]
           []],
      .ret (.cBool true)]
     [],
   .ite (.cmp .eq (.idx (.var 0) (.cInt 0)) (.cStr [112, 105, 99, 107]))
     [.for 1 .val (.idx (.var 0) (.cInt 1)) .cNone
        [.ite (.call 10 [(.var 1)])
           [.ret (.cBool true)]
           []],
      .ret (.cBool false)]
     [],
   .ret (.cBool true)]⟩
/-- _law_take_by(_law_cell, _law_three), index 5 -/
noncomputable def d_l_take_by_v02 : Def := ⟨2, 6,
  [.asg 2 (.bin .mod (.var 0) (.cInt 8)),
   .asg 3 (.bin .add (.idx (.var 1) (.bin .mod (.bin .fdiv (.var 0) (.cInt 8)) (.cInt 3))) (.idx (.var 1) (.bin .mod (.bin .fdiv (.var 0) (.cInt 24)) (.cInt 3)))),
   .ite (.cmp .eq (.var 2) (.cInt 0))
     [.ret (.tup [(.cStr [116, 97, 107, 101]), (.cBool false), (.cStr [])])]
     [],
   .ite (.cmp .gt (.var 2) (.cInt 2))
     [.ret (.tup [(.cStr [116, 97, 107, 101]), (.cBool true), (.slice (.var 3) none (some (.cInt 1)))])]
     [],
   .asg 4 (.bin .mod (.bin .fdiv (.var 0) (.cInt 72)) (.cInt 4)),
   .ite (.cmp .eq (.var 4) (.cInt 3))
     [.asg 4 (.bin .add (.cInt 3) (.bin .mod (.bin .fdiv (.var 0) (.cInt 288)) (.cInt 12)))]
     [],
   .for 5 .rng1 (.var 4) .cNone
     [.asg 3 (.bin .add (.var 3) (.call 1 [(.bin .add (.bin .fdiv (.var 0) (.cInt 3456)) (.bin .mul (.cInt 37) (.var 5)))]))],
   .ret (.tup [(.cStr [116, 97, 107, 101]), (.cmp .eq (.var 2) (.cInt 2)), (.slice (.var 3) none (some (.var 4)))])]⟩
/-- _law_joined_by(_law_way, _law_stack, _law_many), index 6 -/
noncomputable def d_l_joined_by_v02 : Def := ⟨3, 9,
  [.asg 3 (.slice (.var 1) (some (.bin .sub (.bi .len [(.var 1)]) (.var 2))) none),
   .asg 4 (.slice (.var 1) none (some (.bin .sub (.bi .len [(.var 1)]) (.var 2)))),
   .asg 5 (.tup [(.cStr [114, 111, 119]), (.bi .tuple [(.comp false (.idx (.var 9) (.cInt 0)) .val (.var 3) .cNone none)])]),
   .asg 6 (.bi .all [(.comp false (.idx (.var 9) (.cInt 1)) .val (.var 3) .cNone none)]),
   .asg 7 (.bi .sum [(.comp false (.idx (.var 9) (.cInt 2)) .val (.var 3) .cNone none)]),
   .ite (.cmp .eq (.var 0) (.cInt 5))
     [.asg 5 (.tup [(.cStr [112, 105, 99, 107]), (.idx (.var 5) (.cInt 1))]),
      .asg 6 (.bi .any [(.comp false (.idx (.var 9) (.cInt 1)) .val (.var 3) .cNone none)]),
      .asg 7 (.bin .sub (.bin .add (.var 7) (.var 2)) (.cInt 1))]
     [],
   .asg 8 (.bin .add (.cInt 1) (.bi .max1 [(.comp false (.idx (.var 9) (.cInt 3)) .val (.var 3) .cNone none)])),
   .ret (.bin .add (.var 4) (.lst false [(.tup [(.var 5), (.var 6), (.var 7), (.var 8)])]))]⟩
/-- _law_put_by(_law_stack, _law_cell, _law_three), index 7 -/
noncomputable def d_l_put_by_v02 : Def := ⟨3, 8,
  [.asg 3 (.bin .mod (.var 1) (.cInt 9)),
   .asg 4 (.bin .fdiv (.var 1) (.cInt 9)),
   .asg 5 (.cInt 0),
   .ite (.var 0)
     [.asg 5 (.idx (.idx (.var 0) (.neg (.cInt 1))) (.cInt 3))]
     [],
   .ite (.and (.cmp .eq (.var 3) (.cInt 6)) (.cmp2 .lt .lt (.cInt 0) (.var 5) (.cInt 12)))
     [.asg 6 (.idx (.var 0) (.neg (.cInt 1))),
      .ret (.bin .add (.slice (.var 0) none (some (.neg (.cInt 1)))) (.lst false [(.tup [(.tup [(.cStr [109, 97, 121, 98, 101]), (.idx (.var 6) (.cInt 0)), (.cmp .gt (.bin .mod (.var 4) (.cInt 3)) (.cInt 0))]), (.cBool true), (.bin .add (.idx (.var 6) (.cInt 2)) (.cInt 1)), (.bin .add (.var 5) (.cInt 1))])]))]
     [],
   .ite (.and (.cmp .eq (.var 3) (.cInt 7)) (.and (.cmp2 .lt .lt (.cInt 0) (.var 5) (.cInt 12)) (.not (.idx (.idx (.var 0) (.neg (.cInt 1))) (.cInt 1)))))
     [.asg 6 (.idx (.var 0) (.neg (.cInt 1))),
      .ret (.bin .add (.slice (.var 0) none (some (.neg (.cInt 1)))) (.lst false [(.tup [(.tup [(.cStr [109, 97, 110, 121]), (.idx (.var 6) (.cInt 0)), (.cmp .gt (.bin .mod (.var 4) (.cInt 3)) (.cInt 0))]), (.cBool true), (.bin .add (.idx (.var 6) (.cInt 2)) (.cInt 1)), (.bin .add (.var 5) (.cInt 1))])]))]
     [],
   .ite (.and (.or (.cmp .eq (.var 3) (.cInt 4)) (.cmp .eq (.var 3) (.cInt 5))) (.cmp .gt (.bi .len [(.var 0)]) (.cInt 1)))
     [.asg 7 (.bin .add (.cInt 2) (.bin .mod (.var 4) (.bi .min2 [(.cInt 7), (.bin .sub (.bi .len [(.var 0)]) (.cInt 1))]))),
      .ite (.cmp .lt (.bi .max1 [(.comp false (.idx (.var 8) (.cInt 3)) .val (.slice (.var 0) (some (.bin .sub (.bi .len [(.var 0)]) (.var 7))) none) .cNone none)]) (.cInt 12))
        [.ret (.call 6 [(.var 3), (.var 0), (.var 7)])]
        []]
     [],
   .ite (.and (.cmp .eq (.var 3) (.cInt 8)) (.cmp .eq (.bin .mod (.var 4) (.cInt 3)) (.cInt 0)))
     [.ret (.bin .add (.var 0) (.lst false [(.tup [(.tup [(.cStr [114, 111, 119]), (.tup [])]), (.cBool true), (.cInt 0), (.cInt 1)])]))]
     [],
   .ret (.bin .add (.var 0) (.lst false [(.tup [(.call 5 [(.var 4), (.var 2)]), (.cBool false), (.cInt 1), (.cInt 1)])]))]⟩
/-- _law_tree_by(_law_cells, _law_three), index 8 -/
noncomputable def d_l_tree_by : Def := ⟨2, 4,
  [.asg 2 (.lst false []),
   .for 3 .val (.var 0) .cNone
     [.asg 2 (.call 7 [(.var 2), (.var 3), (.var 1)])],
   .ite (.cmp .eq (.bi .len [(.var 2)]) (.cInt 0))
     [.ret (.tup [(.tup [(.cStr [114, 111, 119]), (.tup [])]), (.cBool true), (.cInt 0), (.cInt 1)])]
     [],
   .ite (.cmp .eq (.bi .len [(.var 2)]) (.cInt 1))
     [.ret (.idx (.var 2) (.cInt 0))]
     [],
   .ret (.idx (.call 6 [(.bin .add (.cInt 4) (.bi .int [(.cmp .eq (.bin .mod (.idx (.var 0) (.cInt 0)) (.cInt 3)) (.cInt 1))])), (.var 2), (.bi .len [(.var 2)])]) (.cInt 0))]⟩
/-- row_tree(pieces), index 14 -/
noncomputable def d_row_tree : Def := ⟨1, 1,
  [.ite (.cmp .eq (.bi .len [(.var 0)]) (.cInt 1))
     [.ret (.idx (.var 0) (.cInt 0))]
     [],
   .ret (.tup [(.cStr [114, 111, 119]), (.bi .tuple [(.var 0)])])]⟩
/-- group_tree(group), index 15 -/
noncomputable def d_group_tree : Def := ⟨1, 2,
  [.asg 1 (.bin .add (.idx (.var 0) (.cInt 0)) (.lst false [(.call 14 [(.idx (.var 0) (.cInt 1))])])),
   .ite (.cmp .eq (.bi .len [(.var 1)]) (.cInt 1))
     [.ret (.idx (.var 1) (.cInt 0))]
     [],
   .ret (.tup [(.cStr [112, 105, 99, 107]), (.bi .tuple [(.var 1)])])]⟩
/-- set_at(pattern, at), index 16 -/
noncomputable def d_set_at : Def := ⟨2, 4,
  [.asg 2 (.cBool true),
   .ite (.cmp .eq (.slice (.var 0) (some (.var 1)) (some (.bin .add (.var 1) (.cInt 1)))) (.cStr [33]))
     [.asg 2 (.cBool false),
      .asg 1 (.bin .add (.var 1) (.cInt 1))]
     [],
   .asg 3 (.lst true []),
   .while (.cmp .lt (.var 1) (.bi .len [(.var 0)]))
     [.ite (.cmp .eq (.idx (.var 0) (.var 1)) (.cStr [93]))
        [.ret (.tup [(.tup [(.cStr [116, 97, 107, 101]), (.var 2), (.join (.cStr []) (.var 3))]), (.bin .add (.var 1) (.cInt 1))])]
        [],
      .ite (.cmp .eq (.idx (.var 0) (.var 1)) (.cStr [126]))
        [.asg 1 (.bin .add (.var 1) (.cInt 1)),
         .ite (.cmp .eq (.var 1) (.bi .len [(.var 0)]))
           [.raise 1]
           []]
        [],
      .expr (.app (.var 3) (.idx (.var 0) (.var 1))),
      .asg 1 (.bin .add (.var 1) (.cInt 1))],
   .raise 1]⟩
/-- take_at(pattern, at), index 17 -/
noncomputable def d_take_at : Def := ⟨2, 3,
  [.asg 2 (.idx (.var 0) (.var 1)),
   .ite (.cmp .eq (.var 2) (.cStr [91]))
     [.ret (.call 16 [(.var 0), (.bin .add (.var 1) (.cInt 1))])]
     [],
   .ite (.cmp .eq (.var 2) (.cStr [46]))
     [.ret (.tup [(.tup [(.cStr [116, 97, 107, 101]), (.cBool false), (.cStr [])]), (.bin .add (.var 1) (.cInt 1))])]
     [],
   .ite (.cmp .eq (.var 2) (.cStr [126]))
     [.ite (.cmp .eq (.bin .add (.var 1) (.cInt 1)) (.bi .len [(.var 0)]))
        [.raise 1]
        [],
      .ret (.tup [(.tup [(.cStr [116, 97, 107, 101]), (.cBool true), (.idx (.var 0) (.bin .add (.var 1) (.cInt 1)))]), (.bin .add (.var 1) (.cInt 2))])]
     [],
   .ret (.tup [(.tup [(.cStr [116, 97, 107, 101]), (.cBool true), (.var 2)]), (.bin .add (.var 1) (.cInt 1))])]⟩
/-- repeated(pieces, pattern, at), index 18 -/
noncomputable def d_repeated : Def := ⟨3, 5,
  [.asg 3 (.cmp .ne (.slice (.var 1) (some (.bin .add (.var 2) (.cInt 1))) (some (.bin .add (.var 2) (.cInt 2)))) (.cStr [33])),
   .ite (.and (.cmp .eq (.idx (.var 1) (.var 2)) (.cStr [42])) (.call 10 [(.idx (.var 0) (.neg (.cInt 1)))]))
     [.raise 1]
     [],
   .asg 4 (.pop (.var 0)),
   .ite (.cmp .eq (.idx (.var 1) (.var 2)) (.cStr [42]))
     [.expr (.app (.var 0) (.tup [(.cStr [109, 97, 110, 121]), (.var 4), (.var 3)]))]
     [.expr (.app (.var 0) (.tup [(.cStr [109, 97, 121, 98, 101]), (.var 4), (.var 3)]))],
   .ite (.var 3)
     [.ret (.bin .add (.var 2) (.cInt 1))]
     [],
   .ret (.bin .add (.var 2) (.cInt 2))]⟩
/-- closed(groups), index 19 -/
noncomputable def d_closed : Def := ⟨1, 2,
  [.ite (.cmp .eq (.bi .len [(.var 0)]) (.cInt 1))
     [.raise 1]
     [],
   .asg 1 (.call 15 [(.pop (.var 0))]),
   .expr (.app (.idx (.idx (.var 0) (.neg (.cInt 1))) (.cInt 1)) (.var 1))]⟩
/-- read(pattern), index 20 -/
noncomputable def d_read : Def := ⟨1, 6,
  [.asg 1 (.lst true [(.lst true [(.lst true []), (.lst true [])])]),
   .asg 2 (.cBool false),
   .asg 3 (.cInt 0),
   .while (.cmp .lt (.var 3) (.bi .len [(.var 0)]))
     [.asg 4 (.idx (.var 0) (.var 3)),
      .ite (.or (.cmp .eq (.var 4) (.cStr [42])) (.cmp .eq (.var 4) (.cStr [63])))
        [.ite (.not (.var 2))
           [.raise 1]
           [],
         .asg 3 (.call 18 [(.idx (.idx (.var 1) (.neg (.cInt 1))) (.cInt 1)), (.var 0), (.var 3)]),
         .asg 2 (.cBool false)]
        [.ite (.cmp .eq (.var 4) (.cStr [40]))
           [.ite (.cmp .gt (.bi .len [(.var 1)]) (.glob 0))
              [.raise 1]
              [],
            .expr (.app (.var 1) (.lst true [(.lst true []), (.lst true [])])),
            .asg 2 (.cBool false),
            .asg 3 (.bin .add (.var 3) (.cInt 1))]
           [.ite (.cmp .eq (.var 4) (.cStr [41]))
              [.expr (.call 19 [(.var 1)]),
               .asg 2 (.cBool true),
               .asg 3 (.bin .add (.var 3) (.cInt 1))]
              [.ite (.cmp .eq (.var 4) (.cStr [124]))
                 [.expr (.app (.idx (.idx (.var 1) (.neg (.cInt 1))) (.cInt 0)) (.call 14 [(.idx (.idx (.var 1) (.neg (.cInt 1))) (.cInt 1))])),
                  .sto (.idx (.var 1) (.neg (.cInt 1))) (.cInt 1) (.lst true []),
                  .asg 2 (.cBool false),
                  .asg 3 (.bin .add (.var 3) (.cInt 1))]
                 [.ite (.cmp .eq (.var 4) (.cStr [93]))
                    [.raise 1]
                    [.asg 5 (.call 17 [(.var 0), (.var 3)]),
                     .expr (.app (.idx (.idx (.var 1) (.neg (.cInt 1))) (.cInt 1)) (.idx (.var 5) (.cInt 0))),
                     .asg 2 (.cBool true),
                     .asg 3 (.idx (.var 5) (.cInt 1))]]]]]],
   .ite (.cmp .gt (.bi .len [(.var 1)]) (.cInt 1))
     [.raise 1]
     [],
   .ret (.call 15 [(.idx (.var 1) (.cInt 0))])]⟩
/-- _law_alike(_law_found, _law_due), index 21 -/
noncomputable def d_l_alike : Def := ⟨2, 2,
  [.ite (.bi .isTup [(.var 1)])
     [.ite (.or (.not (.bi .isTup [(.var 0)])) (.cmp .ne (.bi .len [(.var 0)]) (.bi .len [(.var 1)])))
        [.ret (.cBool false)]
        [],
      .ret (.bi .all [(.comp false (.call 21 [(.idx (.var 0) (.var 2)), (.idx (.var 1) (.var 2))]) .rng1 (.bi .len [(.var 1)]) .cNone none)])]
     [],
   .ite (.bi .isBool [(.var 1)])
     [.ret (.and (.bi .isBool [(.var 0)]) (.cmp .eq (.var 0) (.var 1)))]
     [],
   .ret (.and (.bi .isStr [(.var 0)]) (.cmp .eq (.var 0) (.var 1)))]⟩
/-- plain(sign), index 29 -/
noncomputable def d_plain : Def := ⟨1, 1,
  [.ite (.cmp .isin (.var 0) (.glob 1))
     [.ret (.bin .add (.cStr [126]) (.var 0))]
     [],
   .ret (.var 0)]⟩
/-- take_shown(inside, signs), index 30 -/
noncomputable def d_take_shown : Def := ⟨2, 3,
  [.ite (.and (.var 0) (.cmp .eq (.bi .len [(.var 1)]) (.cInt 1)))
     [.ret (.call 29 [(.var 1)])]
     [],
   .ite (.and (.not (.var 0)) (.cmp .eq (.var 1) (.cStr [])))
     [.ret (.cStr [46])]
     [],
   .asg 2 (.join (.cStr []) (.comp false (.call 29 [(.var 3)]) .val (.var 1) .cNone none)),
   .ite (.var 0)
     [.ret (.bin .add (.bin .add (.cStr [91]) (.var 2)) (.cStr [93]))]
     [],
   .ret (.bin .add (.bin .add (.cStr [91, 33]) (.var 2)) (.cStr [93]))]⟩
/-- held(tree, kinds), index 31 -/
noncomputable def d_held : Def := ⟨2, 2,
  [.ite (.cmp .isin (.idx (.var 0) (.cInt 0)) (.var 1))
     [.ret (.bin .add (.bin .add (.cStr [40]) (.call 32 [(.var 0)])) (.cStr [41]))]
     [],
   .ret (.call 32 [(.var 0)])]⟩
/-- shown(tree), index 32 -/
noncomputable def d_shown : Def := ⟨1, 2,
  [.ite (.cmp .eq (.idx (.var 0) (.cInt 0)) (.cStr [116, 97, 107, 101]))
     [.ret (.call 30 [(.idx (.var 0) (.cInt 1)), (.idx (.var 0) (.cInt 2))])]
     [],
   .ite (.cmp .eq (.idx (.var 0) (.cInt 0)) (.cStr [114, 111, 119]))
     [.ret (.join (.cStr []) (.comp false (.call 31 [(.var 2), (.tup [(.cStr [114, 111, 119]), (.cStr [112, 105, 99, 107])])]) .val (.idx (.var 0) (.cInt 1)) .cNone none))]
     [],
   .ite (.cmp .eq (.idx (.var 0) (.cInt 0)) (.cStr [112, 105, 99, 107]))
     [.ret (.join (.cStr [124]) (.comp false (.call 31 [(.var 2), (.tup [(.cStr [112, 105, 99, 107])])]) .val (.idx (.var 0) (.cInt 1)) .cNone none))]
     [],
   .asg 1 (.call 31 [(.idx (.var 0) (.cInt 1)), (.tup [(.cStr [114, 111, 119]), (.cStr [112, 105, 99, 107]), (.cStr [109, 97, 121, 98, 101]), (.cStr [109, 97, 110, 121])])]),
   .ite (.cmp .eq (.idx (.var 0) (.cInt 0)) (.cStr [109, 97, 110, 121]))
     [.asg 1 (.bin .add (.var 1) (.cStr [42]))]
     [.asg 1 (.bin .add (.var 1) (.cStr [63]))],
   .ite (.idx (.var 0) (.cInt 2))
     [.ret (.var 1)]
     [],
   .ret (.bin .add (.var 1) (.cStr [33]))]⟩
/-- _law_mark(_law_signs), index 33 -/
noncomputable def d_l_mark : Def := ⟨1, 3,
  [.asg 1 (.cStr []),
   .for 2 .val (.var 0) .cNone
     [.ite (.cmp .isin (.var 2) (.cStr [40, 41, 124, 42, 63, 46, 91, 93, 126, 33]))
        [.asg 1 (.bin .add (.var 1) (.cStr [126]))]
        [],
      .asg 1 (.bin .add (.var 1) (.var 2))],
   .ret (.var 1)]⟩
/-- _law_within(_law_tree, _law_kinds), index 34 -/
noncomputable def d_l_within : Def := ⟨2, 2,
  [.ite (.cmp .isin (.idx (.var 0) (.cInt 0)) (.var 1))
     [.ret (.bin .add (.bin .add (.cStr [40]) (.call 35 [(.var 0)])) (.cStr [41]))]
     [],
   .ret (.call 35 [(.var 0)])]⟩
/-- _law_shown(_law_tree), index 35 -/
noncomputable def d_l_shown : Def := ⟨1, 3,
  [.ite (.and (.cmp .eq (.idx (.var 0) (.cInt 0)) (.cStr [116, 97, 107, 101])) (.and (.idx (.var 0) (.cInt 1)) (.cmp .eq (.bi .len [(.idx (.var 0) (.cInt 2))]) (.cInt 1))))
     [.ret (.call 33 [(.idx (.var 0) (.cInt 2))])]
     [],
   .ite (.and (.cmp .eq (.idx (.var 0) (.cInt 0)) (.cStr [116, 97, 107, 101])) (.idx (.var 0) (.cInt 1)))
     [.ret (.bin .add (.bin .add (.cStr [91]) (.call 33 [(.idx (.var 0) (.cInt 2))])) (.cStr [93]))]
     [],
   .ite (.cmp .eq (.idx (.var 0) (.cInt 0)) (.cStr [116, 97, 107, 101]))
     [.ret (.ite (.cmp .eq (.idx (.var 0) (.cInt 2)) (.cStr [])) (.cStr [46]) (.bin .add (.bin .add (.cStr [91, 33]) (.call 33 [(.idx (.var 0) (.cInt 2))])) (.cStr [93])))]
     [],
   .ite (.cmp .eq (.idx (.var 0) (.cInt 0)) (.cStr [114, 111, 119]))
     [.ret (.join (.cStr []) (.comp false (.call 34 [(.var 3), (.lst false [(.cStr [114, 111, 119]), (.cStr [112, 105, 99, 107])])]) .val (.idx (.var 0) (.cInt 1)) .cNone none))]
     [],
   .ite (.cmp .eq (.idx (.var 0) (.cInt 0)) (.cStr [112, 105, 99, 107]))
     [.ret (.join (.cStr [124]) (.comp false (.call 34 [(.var 3), (.lst false [(.cStr [112, 105, 99, 107])])]) .val (.idx (.var 0) (.cInt 1)) .cNone none))]
     [],
   .asg 1 (.ite (.cmp .eq (.idx (.var 0) (.cInt 0)) (.cStr [109, 97, 110, 121])) (.cStr [42]) (.cStr [63])),
   .asg 2 (.bin .add (.call 34 [(.idx (.var 0) (.cInt 1)), (.lst false [(.cStr [114, 111, 119]), (.cStr [112, 105, 99, 107]), (.cStr [109, 97, 110, 121]), (.cStr [109, 97, 121, 98, 101])])]) (.var 1)),
   .ret (.ite (.idx (.var 0) (.cInt 2)) (.var 2) (.bin .add (.var 2) (.cStr [33])))]⟩
/-- _law_pick_by(_law_cell, _law_many), index 36 -/
noncomputable def d_l_pick_by : Def := ⟨2, 6,
  [.asg 2 (.lst true []),
   .for 3 .rng1 (.var 1) .cNone
     [.asg 4 (.tup [(.cStr [116, 97, 107, 101]), (.cBool true), (.call 1 [(.bin .add (.var 0) (.bin .mul (.cInt 7) (.var 3)))])]),
      .ite (.cmp .eq (.bin .mod (.var 3) (.cInt 3)) (.cInt 1))
        [.asg 4 (.tup [(.cStr [114, 111, 119]), (.tup [(.var 4), (.tup [(.cStr [116, 97, 107, 101]), (.cmp .eq (.bin .mod (.var 3) (.cInt 2)) (.cInt 0)), (.call 1 [(.bin .add (.var 0) (.bin .mul (.cInt 11) (.var 3)))])])])])]
        [],
      .expr (.app (.var 2) (.var 4))],
   .asg 5 (.join (.cStr []) (.comp false (.call 1 [(.bin .add (.var 0) (.bin .mul (.cInt 5) (.var 6)))]) .rng1 (.bin .add (.cInt 15) (.bin .mod (.bin .fdiv (.var 0) (.cInt 96)) (.cInt 75))) .cNone none)),
   .ret (.tup [(.cStr [112, 105, 99, 107]), (.bi .tuple [(.bin .add (.var 2) (.lst false [(.tup [(.cStr [116, 97, 107, 101]), (.cmp .eq (.bin .mod (.var 0) (.cInt 2)) (.cInt 0)), (.var 5)])]))])])]⟩
/-- _law_pick_right(_law_tree), index 37 -/
noncomputable def d_l_pick_right_v05 : Def := ⟨1, 2,
  [.asg 1 (.call 35 [(.var 0)]),
   .ite (.or (.cmp .ne (.call 32 [(.var 0)]) (.var 1)) (.not (.call 21 [(.call 20 [(.var 1)]), (.var 0)])))
     [.ret (.cBool false)]
     [],
   .ite (.not (.call 21 [(.call 20 [(.bin .add (.bin .add (.cStr [40]) (.var 1)) (.cStr [41, 42, 97]))]), (.tup [(.cStr [114, 111, 119]), (.tup [(.tup [(.cStr [109, 97, 110, 121]), (.var 0), (.cBool true)]), (.tup [(.cStr [116, 97, 107, 101]), (.cBool true), (.cStr [97])])])])]))
     [.ret (.cBool false)]
     [],
   .ret (.call 21 [(.call 20 [(.bin .add (.bin .add (.cStr [98, 40]) (.var 1)) (.cStr [41]))]), (.tup [(.cStr [114, 111, 119]), (.tup [(.tup [(.cStr [116, 97, 107, 101]), (.cBool true), (.cStr [98])]), (.var 0)])])])]⟩
/-- law(_law_script), index 3 -/
noncomputable def d_law_v05 : Def := ⟨1, 10,
  [.asg 1 (.call 2 [(.call 0 [(.var 0), (.cInt 0)])]),
   .asg 2 (.idx (.call 8 [(.slice (.var 0) (some (.cInt 3)) (some (.cInt 31))), (.var 1)]) (.cInt 0)),
   .ite (.cmp .eq (.bin .mod (.call 0 [(.var 0), (.cInt 1)]) (.cInt 5)) (.cInt 1))
     [.for 3 .rng1 (.bin .mod (.call 0 [(.var 0), (.cInt 2)]) (.cInt 16)) .cNone
        [.asg 2 (.tup [(.cStr [109, 97, 121, 98, 101]), (.var 2), (.cmp .eq (.bin .mod (.var 3) (.cInt 3)) (.cInt 0))])]]
     [],
   .asg 4 (.call 35 [(.var 2)]),
   .asg 5 (.call 32 [(.var 2)]),
   .ite (.or (.not (.bi .isStr [(.var 5)])) (.or (.cmp .ne (.var 5) (.var 4)) (.not (.call 21 [(.call 20 [(.var 4)]), (.var 2)]))))
     [.ret (.cBool false)]
     [],
   .asg 6 (.var 2),
   .for 3 .rng1 (.bin .mod (.bin .fdiv (.call 0 [(.var 0), (.cInt 2)]) (.cInt 16)) (.cInt 60)) .cNone
     [.asg 6 (.tup [(.cStr [109, 97, 121, 98, 101]), (.var 6), (.cmp .eq (.bin .mod (.var 3) (.cInt 2)) (.cInt 0))])],
   .ite (.cmp .ne (.call 32 [(.var 6)]) (.call 35 [(.var 6)]))
     [.ret (.cBool false)]
     [],
   .ite (.not (.call 21 [(.call 20 [(.bin .add (.bin .add (.cStr [40, 40]) (.var 4)) (.cStr [41, 41]))]), (.var 2)]))
     [.ret (.cBool false)]
     [],
   .ite (.not (.call 37 [(.call 36 [(.call 0 [(.var 0), (.cInt 2)]), (.bin .add (.cInt 8) (.bin .mod (.bin .fdiv (.call 0 [(.var 0), (.cInt 1)]) (.cInt 55)) (.cInt 60)))])]))
     [.ret (.cBool false)]
     [],
   .asg 7 (.bin .add (.cInt 20) (.bin .mod (.bin .fdiv (.call 0 [(.var 0), (.cInt 1)]) (.cInt 5)) (.cInt 11))),
   .asg 8 (.tup [(.cStr [112, 105, 99, 107]), (.tup [(.tup [(.cStr [116, 97, 107, 101]), (.cBool true), (.cStr [97])]), (.tup [(.cStr [116, 97, 107, 101]), (.cBool true), (.cStr [98])])])]),
   .for 3 .rng1 (.var 7) .cNone
     [.asg 8 (.tup [(.cStr [109, 97, 121, 98, 101]), (.var 8), (.cmp .eq (.bin .mod (.var 3) (.cInt 2)) (.cInt 1))])],
   .ite (.not (.call 21 [(.call 20 [(.bin .add (.bin .add (.bin .mul (.cStr [40]) (.var 7)) (.cStr [97, 124, 98])) (.join (.cStr []) (.comp false (.bin .add (.cStr [41, 63]) (.bin .mul (.cStr [33]) (.bin .sub (.cInt 1) (.bin .mod (.var 10) (.cInt 2))))) .rng1 (.var 7) .cNone none)))]), (.var 8)]))
     [.ret (.cBool false)]
     [],
   .asg 9 (.call 20 [(.bin .add (.bin .add (.bin .add (.bin .add (.cStr [40]) (.var 4)) (.cStr [41, 40])) (.var 4)) (.cStr [41]))]),
   .ite (.not (.call 21 [(.var 9), (.tup [(.cStr [114, 111, 119]), (.tup [(.var 2), (.var 2)])])]))
     [.ret (.cBool false)]
     [],
   .ret (.call 21 [(.call 20 [(.bin .add (.bin .add (.bin .add (.bin .add (.cStr [40]) (.var 4)) (.cStr [41, 124, 97, 124, 40])) (.var 4)) (.cStr [41]))]), (.tup [(.cStr [112, 105, 99, 107]), (.tup [(.var 2), (.tup [(.cStr [116, 97, 107, 101]), (.cBool true), (.cStr [97])]), (.var 2)])])])]⟩
noncomputable def P05 : List Def := [d_l_cell_at, d_l_sign_by, d_l_three_by, d_law_v05, d_l_cell_at, d_l_take_by_v02, d_l_joined_by_v02, d_l_put_by_v02, d_l_tree_by, d_l_cell_at, d_bare, d_l_cell_at, d_l_cell_at, d_l_cell_at, d_row_tree, d_group_tree, d_set_at, d_take_at, d_repeated, d_closed, d_read, d_l_alike, d_l_cell_at, d_l_cell_at, d_l_cell_at, d_l_cell_at, d_l_cell_at, d_l_cell_at, d_l_cell_at, d_plain, d_take_shown, d_held, d_shown, d_l_mark, d_l_within, d_l_shown, d_l_pick_by, d_l_pick_right_v05]
noncomputable def GL05 : List V := [(.int 30), (.str [40, 41, 124, 42, 63, 46, 91, 93, 126, 33])]
end Mine

namespace Mine
open PySem
noncomputable def t_l_cell_at : List (Str × Nat) := [(Str.ofString "_law_script", 0), (Str.ofString "_law_k", 1)]
noncomputable def t_l_sign_by : List (Str × Nat) := [(Str.ofString "_law_cell", 0), (Str.ofString "_law_some", 1)]
noncomputable def t_l_three_by : List (Str × Nat) := [(Str.ofString "_law_cell", 0)]
noncomputable def t_bare : List (Str × Nat) := [(Str.ofString "tree", 0), (Str.ofString "part", 1)]
noncomputable def t_l_take_by_v02 : List (Str × Nat) := [(Str.ofString "_law_cell", 0), (Str.ofString "_law_three", 1), (Str.ofString "_law_way", 2), (Str.ofString "_law_some", 3), (Str.ofString "_law_many", 4), (Str.ofString "_law_k", 5)]
noncomputable def t_l_joined_by_v02 : List (Str × Nat) := [(Str.ofString "_law_way", 0), (Str.ofString "_law_stack", 1), (Str.ofString "_law_many", 2), (Str.ofString "_law_parts", 3), (Str.ofString "_law_kept", 4), (Str.ofString "_law_tree", 5), (Str.ofString "_law_is_bare", 6), (Str.ofString "_law_count", 7), (Str.ofString "_law_deep", 8)]
noncomputable def t_l_put_by_v02 : List (Str × Nat) := [(Str.ofString "_law_stack", 0), (Str.ofString "_law_cell", 1), (Str.ofString "_law_three", 2), (Str.ofString "_law_way", 3), (Str.ofString "_law_rest", 4), (Str.ofString "_law_high", 5), (Str.ofString "_law_last", 6), (Str.ofString "_law_many", 7)]
noncomputable def t_l_tree_by : List (Str × Nat) := [(Str.ofString "_law_cells", 0), (Str.ofString "_law_three", 1), (Str.ofString "_law_stack", 2), (Str.ofString "_law_cell", 3)]
noncomputable def t_row_tree : List (Str × Nat) := [(Str.ofString "pieces", 0)]
noncomputable def t_group_tree : List (Str × Nat) := [(Str.ofString "group", 0), (Str.ofString "trees", 1)]
noncomputable def t_set_at : List (Str × Nat) := [(Str.ofString "pattern", 0), (Str.ofString "at", 1), (Str.ofString "inside", 2), (Str.ofString "signs", 3)]
noncomputable def t_take_at : List (Str × Nat) := [(Str.ofString "pattern", 0), (Str.ofString "at", 1), (Str.ofString "sign", 2)]
noncomputable def t_repeated : List (Str × Nat) := [(Str.ofString "pieces", 0), (Str.ofString "pattern", 1), (Str.ofString "at", 2), (Str.ofString "eager", 3), (Str.ofString "part", 4)]
noncomputable def t_closed : List (Str × Nat) := [(Str.ofString "groups", 0), (Str.ofString "tree", 1)]
noncomputable def t_read : List (Str × Nat) := [(Str.ofString "pattern", 0), (Str.ofString "groups", 1), (Str.ofString "ready", 2), (Str.ofString "at", 3), (Str.ofString "sign", 4), (Str.ofString "found", 5)]
noncomputable def t_l_alike : List (Str × Nat) := [(Str.ofString "_law_found", 0), (Str.ofString "_law_due", 1)]
noncomputable def t_plain : List (Str × Nat) := [(Str.ofString "sign", 0)]
noncomputable def t_take_shown : List (Str × Nat) := [(Str.ofString "inside", 0), (Str.ofString "signs", 1), (Str.ofString "told", 2)]
noncomputable def t_held : List (Str × Nat) := [(Str.ofString "tree", 0), (Str.ofString "kinds", 1)]
noncomputable def t_shown : List (Str × Nat) := [(Str.ofString "tree", 0), (Str.ofString "told", 1)]
noncomputable def t_l_mark : List (Str × Nat) := [(Str.ofString "_law_signs", 0), (Str.ofString "_law_told", 1), (Str.ofString "_law_sign", 2)]
noncomputable def t_l_within : List (Str × Nat) := [(Str.ofString "_law_tree", 0), (Str.ofString "_law_kinds", 1)]
noncomputable def t_l_shown : List (Str × Nat) := [(Str.ofString "_law_tree", 0), (Str.ofString "_law_sign", 1), (Str.ofString "_law_told", 2)]
noncomputable def t_l_pick_by : List (Str × Nat) := [(Str.ofString "_law_cell", 0), (Str.ofString "_law_many", 1), (Str.ofString "_law_parts", 2), (Str.ofString "_law_k", 3), (Str.ofString "_law_one", 4), (Str.ofString "_law_some", 5)]
noncomputable def t_l_pick_right_v05 : List (Str × Nat) := [(Str.ofString "_law_tree", 0), (Str.ofString "_law_due", 1)]
noncomputable def t_law_v05 : List (Str × Nat) := [(Str.ofString "_law_script", 0), (Str.ofString "_law_three", 1), (Str.ofString "_law_tree", 2), (Str.ofString "_law_k", 3), (Str.ofString "_law_due", 4), (Str.ofString "_law_found", 5), (Str.ofString "_law_deep", 6), (Str.ofString "_law_many", 7), (Str.ofString "_law_nested", 8), (Str.ofString "_law_twice", 9)]
noncomputable def TB05 : List (List (Str × Nat)) := [t_l_cell_at, t_l_sign_by, t_l_three_by, t_law_v05, t_l_cell_at, t_l_take_by_v02, t_l_joined_by_v02, t_l_put_by_v02, t_l_tree_by, t_l_cell_at, t_bare, t_l_cell_at, t_l_cell_at, t_l_cell_at, t_row_tree, t_group_tree, t_set_at, t_take_at, t_repeated, t_closed, t_read, t_l_alike, t_l_cell_at, t_l_cell_at, t_l_cell_at, t_l_cell_at, t_l_cell_at, t_l_cell_at, t_l_cell_at, t_plain, t_take_shown, t_held, t_shown, t_l_mark, t_l_within, t_l_shown, t_l_pick_by, t_l_pick_right_v05]
noncomputable def NM05 : Nm := ⟨[Str.ofString "_law_cell_at", Str.ofString "_law_sign_by", Str.ofString "_law_three_by", Str.ofString "law", Str.ofString "_law_cell_at", Str.ofString "_law_take_by", Str.ofString "_law_joined_by", Str.ofString "_law_put_by", Str.ofString "_law_tree_by", Str.ofString "_law_cell_at", Str.ofString "bare", Str.ofString "_law_cell_at", Str.ofString "_law_cell_at", Str.ofString "_law_cell_at", Str.ofString "row_tree", Str.ofString "group_tree", Str.ofString "set_at", Str.ofString "take_at", Str.ofString "repeated", Str.ofString "closed", Str.ofString "read", Str.ofString "_law_alike", Str.ofString "_law_cell_at", Str.ofString "_law_cell_at", Str.ofString "_law_cell_at", Str.ofString "_law_cell_at", Str.ofString "_law_cell_at", Str.ofString "_law_cell_at", Str.ofString "_law_cell_at", Str.ofString "plain", Str.ofString "take_shown", Str.ofString "held", Str.ofString "shown", Str.ofString "_law_mark", Str.ofString "_law_within", Str.ofString "_law_shown", Str.ofString "_law_pick_by", Str.ofString "_law_pick_right"], [Str.ofString "MOST_GROUPS", Str.ofString "SPECIAL"]⟩
end Mine

namespace Mine

theorem callF_eq {gl : List V} {P : List Def} {f : Nat} {D : Def} (hD : P[f]? = some D) {args : List V} (hl : args.length = D.np) (d : Nat) (σ : Sg) :
    callF gl P (d + 1) f args σ = (exB gl (callF gl P d) D.body (args ++ List.replicate (D.nl - D.np) .undef) σ).bind fun p σ => .ok (flV p.1) σ := by
  rw [callF_succ, hD]
  exact if_pos hl

theorem small_of {i : Int} (h1 : -4611686018427387904 < i) (h2 : i < 4611686018427387904) : small i = true := by
  unfold small; exact Nat.ble_eq_true_of_le (by omega)

theorem vIdx_nat {σ : Sg} {v : V} {xs : List V} {i : Int} {k : Nat} {x : V} (hs : getSeq σ v = some xs) (hi : i = (k : Int)) (hk : xs[k]? = some x) (hl : xs.length < 4611686018427387904) : vIdx σ v (.int i) = some x := by
  subst hi
  have hlt : k < xs.length := (List.getElem?_eq_some_iff.mp hk).1
  unfold vIdx
  have hsm : small (k : Int) = true := small_of (by omega) (by omega)
  have hn : nIdx (k : Int) xs.length = some k := by
    unfold nIdx
    rw [if_pos (by omega), if_pos (by omega)]
    simp
  simp [hsm, hs, hn, hk]

theorem vIdx_last {σ : Sg} {v : V} {xs : List V} {i : Int} {x : V} (hs : getSeq σ v = some xs) (hi : i = -1) (hk : xs.getLast? = some x) : vIdx σ v (.int i) = some x := by
  subst hi
  cases xs with
  | nil => simp at hk
  | cons a r =>
    unfold vIdx
    have hsm : small (-1) = true := by decide
    have hn : nIdx (-1) (a :: r).length = some r.length := by
      unfold nIdx
      rw [if_neg (by omega), if_pos (by simp only [List.length_cons]; omega)]
      congr 1
      simp only [List.length_cons]; omega
    have hg : (a :: r)[r.length]? = some x := by
      rw [List.getLast?_eq_getElem?] at hk
      simpa using hk
    simp only [hsm, hs, if_true, Option.bind_some, hn]
    exact hg

theorem vBin_fdiv {σ : Sg} {a b : Int} (hb : small b = true) (h0 : b ≠ 0) : vBin σ .fdiv (.int a) (.int b) = some (.int (a.fdiv b)) := by
  show (if small b && b != 0 then some (V.int (a.fdiv b)) else none) = _
  rw [hb, bne_iff_ne.mpr h0]; rfl
theorem vBin_mod {σ : Sg} {a b : Int} (h0 : b ≠ 0) : vBin σ .mod (.int a) (.int b) = some (.int (a.fmod b)) := by
  show (if b != 0 then some (V.int (a.fmod b)) else none) = _
  rw [bne_iff_ne.mpr h0]; rfl
theorem vBin_mul {σ : Sg} {a b : Int} (hb : (small a || small b) = true) : vBin σ .mul (.int a) (.int b) = some (.int (a * b)) := by
  show (if small a || small b then some (V.int (a * b)) else none) = _
  rw [hb]; rfl
theorem vBin_add {σ : Sg} {a b : Int} : vBin σ .add (.int a) (.int b) = some (.int (a + b)) := rfl
theorem vBin_sub {σ : Sg} {a b : Int} : vBin σ .sub (.int a) (.int b) = some (.int (a - b)) := rfl
theorem vBin_addS {σ : Sg} {a b : List Nat} (h : a.length + b.length ≤ roomy) : vBin σ .add (.str a) (.str b) = some (.str (a ++ b)) := by
  show (if a.length + b.length ≤ roomy then some (V.str (a ++ b)) else none) = _
  rw [if_pos h]
theorem vBin_addL {σ : Sg} {a b : List V} (h : a.length + b.length ≤ roomy) : vBin σ .add (.lst a) (.lst b) = some (.lst (a ++ b)) := by
  show addL a b = _
  rw [addL, if_pos h]

section
variable {σ : Sg}
theorem bi_len_l {xs : List V} : vBi σ .len [.lst xs] = some (.int (xs.length : Int)) := rfl
theorem lt_ii {a b : Int} : vCmp σ .lt (.int a) (.int b) = some (decide (a < b)) := rfl
theorem true_b {b : Bool} : vTrue σ (.bool b) = some b := rfl
end

theorem cell_ok {σ : Sg} {xs : List Int} {k : Nat} (hk : k < xs.length) (hx : xs.length ≤ 63) : vIdx σ (.lst (xs.map V.int)) (.int (k : Int)) = some (.int (xs.getD k 0)) := by
  refine vIdx_nat (xs := xs.map V.int) rfl rfl ?_ (by rw [List.length_map]; omega)
  rw [List.getElem?_map, List.getElem?_eq_getElem hk, List.getD_eq_getElem?_getD, List.getElem?_eq_getElem hk]
  rfl

/-- the signs of the laws -/
noncomputable def signs : List Nat := [32, 33, 34, 35, 36, 38, 39, 40, 41, 42, 43, 44, 45, 46, 47, 48, 49, 50, 51, 52, 53, 54, 55, 56, 57, 58, 59, 60, 61, 62, 63, 64, 65, 66, 67, 68, 69, 70, 71, 72, 73, 74, 75, 76, 77, 78, 79, 80, 81, 82, 83, 84, 85, 86, 87, 88, 89, 90, 91, 92, 93, 94, 95, 96,
  97, 98, 99, 100, 101, 102, 103, 104, 105, 106, 107, 108, 109, 110, 111, 112, 113, 114, 115, 116, 117, 118, 119, 120, 121, 122, 123, 124, 125, 126, 10, 9]
noncomputable def sign (c : Int) : Nat := signs.getD (c.fmod 96).toNat 0

theorem fmod_range (a : Int) {b : Int} (hb : 0 < b) : 0 ≤ a.fmod b ∧ a.fmod b < b := ⟨Int.fmod_nonneg_of_pos a hb, Int.fmod_lt_of_pos a hb⟩

theorem sign_idx {σ : Sg} (c : Int) : vIdx σ (.str signs) (.int (c.fmod 96)) = some (.str [sign c]) := by
  obtain ⟨h1, h2⟩ := fmod_range c (b := 96) (by decide)
  have hlt : (c.fmod 96).toNat < signs.length := by show _ < 96; omega
  refine vIdx_nat (k := (c.fmod 96).toNat) (xs := signs.map fun c => V.str [c]) rfl (by omega) ?_ (by decide)
  rw [List.getElem?_map, List.getElem?_eq_getElem hlt]
  unfold sign
  rw [List.getD_eq_getElem?_getD, List.getElem?_eq_getElem hlt]
  rfl
end Mine

namespace Mine

structure HS (P : List Def) : Prop where
  c : P[0]? = some d_l_cell_at
  s : P[1]? = some d_l_sign_by
  t : P[2]? = some d_l_three_by

section
variable {gl : List V} {P : List Def} {d : Nat} {σ : Sg}

theorem cell_test {cf : CF} {ys : List V} {k : Int} : evE gl cf (.cmp .lt (.var 1) (.bi .len [(.var 0)])) [.lst ys, .int k] σ = .ok (.bool (decide (k < ys.length))) σ := by
  simp only [evE_cmp, evE_var, evE_bi, evEs_cons, evEs_nil, getV, List.getElem?_cons_zero, List.getElem?_cons_succ, of_some, bind_ok, bi_len_l, lt_ii]
theorem call_cell0 (H : HS P) {ys : List V} {k : Int} (hk : ¬ k < ys.length) : callF gl P (d + 1) 0 [.lst ys, .int k] σ = .ok (.int 0) σ := by
  rw [callF_eq H.c rfl]
  show (exB gl (callF gl P d) d_l_cell_at.body [.lst ys, .int k] σ).bind _ = _
  unfold d_l_cell_at
  rw [exB_cons0, exS_ite0, cell_test, bind_ok, true_b, of_some, bind_ok, decide_eq_false hk, if_neg Bool.false_ne_true]
  rfl
theorem call_cell1 (H : HS P) {ys : List V} {k : Int} {v : V} (hk : k < ys.length) (h1 : vIdx σ (.lst ys) (.int k) = some v) : callF gl P (d + 1) 0 [.lst ys, .int k] σ = .ok v σ := by
  rw [callF_eq H.c rfl]
  show (exB gl (callF gl P d) d_l_cell_at.body [.lst ys, .int k] σ).bind _ = _
  unfold d_l_cell_at
  have h2 : evE gl (callF gl P d) (.idx (.var 0) (.var 1)) [.lst ys, .int k] σ = .ok v σ := by
    simp only [evE_idx, evE_var, getV, List.getElem?_cons_zero, List.getElem?_cons_succ, of_some, bind_ok, h1]
  rw [exB_cons0, exS_ite0, cell_test, bind_ok, true_b, of_some, bind_ok, decide_eq_true hk, if_pos rfl, exB_cons0, exS_ret0, h2]
  rfl

theorem call_cell (H : HS P) {xs : List Int} (hx : xs.length ≤ 63) {i : Int} (k : Nat) (hi : i = (k : Int)) : callF gl P (d + 1) 0 [.lst (xs.map V.int), .int i] σ = .ok (.int (xs.getD k 0)) σ := by
  subst hi
  by_cases hk : k < xs.length
  · exact call_cell1 H (by rw [List.length_map]; omega) (cell_ok hk hx)
  · have h3 : xs.getD k 0 = 0 := by rw [List.getD_eq_getElem?_getD, List.getElem?_eq_none (Nat.le_of_not_lt hk)]; rfl
    rw [h3]
    exact call_cell0 H (by rw [List.length_map]; omega)

theorem sign_body {cf : CF} {a b : List Nat} {c : Int} (h : a ++ b = signs) (hl : a.length + b.length ≤ roomy) : exB gl cf [.asg 1 (.cStr a), .asg 1 (.bin .add (.var 1) (.cStr b)), .ret (.idx (.var 1) (.bin .mod (.var 0) (.cInt 96)))] [.int c, .undef] σ = .ok (.ret (.str [sign c]), [.int c, .str signs]) σ := by
  have h1 : evE gl cf (.bin .add (.var 1) (.cStr b)) [.int c, .str a] σ = .ok (.str signs) σ := by
    simp only [evE_bin, evE_cStr, evE_var, getV, List.getElem?_cons_zero, List.getElem?_cons_succ, of_some, bind_ok, vBin_addS hl, h]
  have h2 : evE gl cf (.idx (.var 1) (.bin .mod (.var 0) (.cInt 96))) [.int c, .str signs] σ = .ok (.str [sign c]) σ := by
    simp only [evE_idx, evE_bin, evE_cInt, evE_var, getV, List.getElem?_cons_zero, List.getElem?_cons_succ, of_some, bind_ok, vBin_mod (a := c) (b := 96) (σ := σ) (by decide), sign_idx]
  rw [exB_cons0, exS_asg0, evE_cStr, bind_ok, bind_ok]
  show exB gl cf _ [.int c, .str a] σ = _
  rw [exB_cons0, exS_asg0, h1, bind_ok, bind_ok]
  show exB gl cf _ [.int c, .str signs] σ = _
  rw [exB_cons0, exS_ret0, h2, bind_ok, bind_ok]
theorem call_sign (H : HS P) (c : Int) : callF gl P (d + 1) 1 [.int c] σ = .ok (.str [sign c]) σ := by
  rw [callF_eq H.s rfl]
  have h : exB gl (callF gl P d) d_l_sign_by.body [.int c, .undef] σ = .ok (.ret (.str [sign c]), [.int c, .str signs]) σ := by
    refine sign_body ?_ ?_
    · rfl
    · decide
  exact congrArg (fun r => Res.bind r fun p σ => Res.ok (flV p.1) σ) h

theorem call_three (H : HS P) (c : Int) : callF gl P (d + 2) 2 [.int c] σ = .ok (.str [sign c, sign (c + 31), sign (c + 62)]) σ := by
  rw [callF_eq H.t rfl]
  show (exB gl (callF gl P (d + 1)) d_l_three_by.body [.int c] σ).bind _ = _
  have h2 : evE gl (callF gl P (d + 1)) (.bin .add (.bin .add (.call 1 [(.var 0)]) (.call 1 [(.bin .add (.var 0) (.cInt 31))])) (.call 1 [(.bin .add (.var 0) (.cInt 62))])) [.int c] σ = .ok (.str [sign c, sign (c + 31), sign (c + 62)]) σ := by
    simp only [evE_call, evEs_cons, evEs_nil, evE_bin, evE_cInt, evE_var, getV, List.getElem?_cons_zero, List.getElem?_cons_succ, of_some, bind_ok, vBin_add, call_sign H, vBin_addS (a := [sign c]) (b := [sign (c + 31)]) (σ := σ) (by simp [roomy]), vBin_addS (a := [sign c] ++ [sign (c + 31)]) (b := [sign (c + 62)]) (σ := σ) (by simp [roomy])]
    rfl
  unfold d_l_three_by
  rw [exB_cons0, exS_ret0, h2]
  rfl
end
end Mine

namespace Mine

section
variable {gl : List V} {cf : CF} {σ σ' : Sg} {Γ Γ' : Fm} {s : St} {r : List St} {e e' : Ex} {v u w : V} {f : Fl} {i : Nat}

theorem exB_next (h : exS gl cf s Γ σ = .ok (.next, Γ') σ') : exB gl cf (s :: r) Γ σ = exB gl cf r Γ' σ' := by rw [exB_cons0, h, bind_ok]
theorem exB_ret (h : exS gl cf s Γ σ = .ok (.ret v, Γ') σ') : exB gl cf (s :: r) Γ σ = .ok (.ret v, Γ') σ' := by rw [exB_cons0, h, bind_ok]
theorem exS_asg (h : evE gl cf e Γ σ = .ok v σ') : exS gl cf (.asg i e) Γ σ = .ok (.next, Γ.set i v) σ' := by rw [exS_asg0, h, bind_ok]
theorem exS_ret (h : evE gl cf e Γ σ = .ok v σ') : exS gl cf (.ret e) Γ σ = .ok (.ret v, Γ) σ' := by rw [exS_ret0, h, bind_ok]
theorem exS_expr (h : evE gl cf e Γ σ = .ok v σ') : exS gl cf (.expr e) Γ σ = .ok (.next, Γ) σ' := by rw [exS_expr0, h, bind_ok]
theorem exS_ite {a b : List St} {t : Bool} (h : evE gl cf e Γ σ = .ok v σ') (ht : vTrue σ' v = some t) : exS gl cf (.ite e a b) Γ σ = if t then exB gl cf a Γ σ' else exB gl cf b Γ σ' := by rw [exS_ite0, h, bind_ok, ht, of_some, bind_ok]
theorem exS_for {ik : IK} {a b : Ex} {body : List St} {σ₁ σ₂ : Sg} {x y : V} {items : List V} (h1 : evE gl cf a Γ σ = .ok x σ₁) (h2 : evE gl cf b Γ σ₁ = .ok y σ₂) (h3 : vItems ik x y = some items) :
    exS gl cf (.for i ik a b body) Γ σ = forGo (exB gl cf body) i items Γ σ₂ := by rw [exS_for0, h1, bind_ok, h2, bind_ok, h3, of_some, bind_ok]
theorem callF_ret {P : List Def} {f : Nat} {D : Def} {args : List V} {d : Nat} (hD : P[f]? = some D) (hl : args.length = D.np) (h : exB gl (callF gl P d) D.body (args ++ List.replicate (D.nl - D.np) .undef) σ = .ok (.ret v, Γ') σ') : callF gl P (d + 1) f args σ = .ok v σ' := by
  rw [callF_eq hD hl, h, bind_ok]; rfl

theorem joinS_nil : ∀ (l : List (List Nat)), joinS [] l = l.flatten
  | [] => rfl
  | [x] => by simp [joinS]
  | x :: y :: r => by
    have h : joinS [] (x :: y :: r) = x ++ [] ++ joinS [] (y :: r) := rfl
    rw [h, joinS_nil (y :: r)]; simp

theorem strsV_map {α : Type} (g : α → List Nat) : ∀ (l : List α), strsV (l.map fun x => V.str (g x)) = some (l.map g)
  | [] => rfl
  | x :: r => by rw [List.map_cons, strsV, strsV_map g r]; rfl

theorem rangeL_nat (n : Nat) : rangeL 0 (n : Int) = (List.range n).map fun (k : Nat) => V.int (k : Int) := by
  unfold rangeL
  rw [show ((n : Int) - 0).toNat = n by omega]
  simp

theorem items_rng {n : Nat} (hn : n < 4611686018427387904) : vItems .rng1 (.int (n : Int)) .none = some ((List.range n).map fun (k : Nat) => V.int (k : Int)) := by
  have h : small (n : Int) = true := small_of (by omega) (by omega)
  simp only [vItems, h, if_true, rangeL_nat]

/-- joined single signs -/
theorem vJoin_signs {α : Type} {g : α → Nat} {l : List α} (hn : l.length ≤ roomy) : vJoin σ (.str []) (.lst (l.map fun x => V.str [g x])) = some (.str (l.map g)) := by
  unfold vJoin
  have h1 : strsV (l.map fun x => V.str [g x]) = some (l.map fun x => [g x]) := strsV_map (fun x => [g x]) l
  have h2 : ((l.map fun x => [g x]).map fun x => x.length + ([] : List Nat).length).sum = l.length := by
    clear hn h1
    induction l with
    | nil => rfl
    | cons x l ih =>
      rw [List.map_cons, List.map_cons, List.sum_cons, ih]
      simp only [List.length_cons, List.length_nil]; omega
  have h3 : joinS [] (l.map fun x => [g x]) = l.map g := by
    rw [joinS_nil]
    clear hn h1 h2
    induction l with
    | nil => rfl
    | cons x l ih => simp [ih]
  simp only [getL, Option.bind_some, h1, h2, hn, if_true, h3]
end
end Mine

namespace Mine

section
variable {gl : List V} {cf : CF} {σ σ' : Sg} {Γ Γ' : Fm}

theorem exS_iteT {e : Ex} {a b : List St} {v : V} (h : evE gl cf e Γ σ = .ok v σ') (ht : vTrue σ' v = some true) : exS gl cf (.ite e a b) Γ σ = exB gl cf a Γ σ' := (exS_ite h ht).trans (if_pos rfl)
theorem exS_iteF {e : Ex} {a b : List St} {v : V} (h : evE gl cf e Γ σ = .ok v σ') (ht : vTrue σ' v = some false) : exS gl cf (.ite e a b) Γ σ = exB gl cf b Γ σ' := (exS_ite h ht).trans (if_neg Bool.false_ne_true)
/-- a test that fails, with nothing on the other side -/
theorem exB_skip {e : Ex} {a r : List St} {v : V} (h : evE gl cf e Γ σ = .ok v σ') (ht : vTrue σ' v = some false) : exB gl cf (.ite e a [] :: r) Γ σ = exB gl cf r Γ σ' := exB_next ((exS_iteF h ht).trans exB_nil0)
/-- a test that holds, whose block returns -/
theorem exB_take {e : Ex} {a b r : List St} {v w : V} {σ₂ : Sg} (h : evE gl cf e Γ σ = .ok v σ') (ht : vTrue σ' v = some true) (hr : exB gl cf a Γ σ' = .ok (.ret w, Γ') σ₂) : exB gl cf (.ite e a b :: r) Γ σ = .ok (.ret w, Γ') σ₂ := exB_ret ((exS_iteT h ht).trans hr)
theorem exB_into {e : Ex} {a b r : List St} {v : V} {σ₂ : Sg} (h : evE gl cf e Γ σ = .ok v σ') (ht : vTrue σ' v = some true) (hr : exB gl cf a Γ σ' = .ok (.next, Γ') σ₂) : exB gl cf (.ite e a b :: r) Γ σ = exB gl cf r Γ' σ₂ := exB_next ((exS_iteT h ht).trans hr)
theorem exB_asg {i : Nat} {e : Ex} {r : List St} {v : V} (h : evE gl cf e Γ σ = .ok v σ') : exB gl cf (.asg i e :: r) Γ σ = exB gl cf r (Γ.set i v) σ' := exB_next (exS_asg h)
theorem exB_rets {e : Ex} {r : List St} {v : V} (h : evE gl cf e Γ σ = .ok v σ') : exB gl cf (.ret e :: r) Γ σ = .ok (.ret v, Γ) σ' := exB_ret (exS_ret h)
theorem forGo_next {body : Fm → Sg → Res (Fl × Fm)} {i : Nat} {x : V} {r : List V} (h : body (Γ.set i x) σ = .ok (.next, Γ') σ') : forGo body i (x :: r) Γ σ = forGo body i r Γ' σ' := by rw [forGo_cons, h, bind_ok]
theorem forGo_ret {body : Fm → Sg → Res (Fl × Fm)} {i : Nat} {x v : V} {r : List V} (h : body (Γ.set i x) σ = .ok (.ret v, Γ') σ') : forGo body i (x :: r) Γ σ = .ok (.ret v, Γ') σ' := by rw [forGo_cons, h, bind_ok]

theorem tup2 {a b : V} {x : V} : (if [a, b].length ≤ roomy then (Res.ok x σ : Res V) else .bad) = .ok x σ := if_pos (by simp [roomy])
theorem tup3 {a b c : V} {x : V} : (if [a, b, c].length ≤ roomy then (Res.ok x σ : Res V) else .bad) = .ok x σ := if_pos (by simp [roomy])
theorem tup4 {a b c d : V} {x : V} : (if [a, b, c, d].length ≤ roomy then (Res.ok x σ : Res V) else .bad) = .ok x σ := if_pos (by simp [roomy])
theorem tup0 {x : V} : (if ([] : List V).length ≤ roomy then (Res.ok x σ : Res V) else .bad) = .ok x σ := if_pos (by simp [roomy])
theorem putL_f {xs : List V} (h : xs.length ≤ roomy) : putL false xs σ = .ok (.lst xs) σ := by rw [putL, if_pos h]; rfl
theorem putL_1 {x : V} : putL false [x] σ = .ok (.lst [x]) σ := putL_f (by simp [roomy])
theorem putL_0 : putL false [] σ = .ok (.lst []) σ := putL_f (by simp [roomy])

theorem compGo_M {α : Type} {elt : Fm → Sg → Res V} {h k : α → V} : ∀ {l : List α} {acc : List V}, (∀ z ∈ l, elt (Γ ++ [h z]) σ = .ok (k z) σ) → compGo (evT gl cf none) elt Γ (l.map h) acc σ = .ok (acc ++ l.map k) σ
  | [], acc, _ => by rw [List.map_nil, List.map_nil, List.append_nil]; rfl
  | z :: r, acc, H => by
    rw [List.map_cons, compGo_cons, evT_none, bind_ok, if_pos rfl, H z List.mem_cons_self, bind_ok, compGo_M fun y hy => H y (List.mem_cons_of_mem _ hy)]
    simp
theorem evE_compM {α : Type} {l : List α} {h k : α → V} {elt : Ex} {ik : IK} {a b : Ex} {σ₁ σ₂ : Sg} {x y : V} (h1 : evE gl cf a Γ σ = .ok x σ₁) (h2 : evE gl cf b Γ σ₁ = .ok y σ₂) (h3 : vItems ik x y = some (l.map h))
    (he : ∀ z ∈ l, evE gl cf elt (Γ ++ [h z]) σ₂ = .ok (k z) σ₂) (hn : l.length ≤ roomy) : evE gl cf (.comp false elt ik a b none) Γ σ = .ok (.lst (l.map k)) σ₂ := by
  rw [evE_comp0, h1, bind_ok, h2, bind_ok, h3, of_some, bind_ok, compGo_M he, bind_ok, List.nil_append, putL_f (by rw [List.length_map]; exact hn)]

theorem bi_len_t {xs : List V} : vBi σ .len [.tup xs] = some (.int (xs.length : Int)) := rfl
theorem bi_len_s {xs : List Nat} : vBi σ .len [.str xs] = some (.int (xs.length : Int)) := rfl
theorem bi_tuple {xs : List V} : vBi σ .tuple [.lst xs] = some (.tup xs) := rfl
theorem boolsV_map {α : Type} {g : α → Bool} : ∀ (l : List α), boolsV (l.map fun x => V.bool (g x)) = some (l.map g)
  | [] => rfl
  | x :: r => by rw [List.map_cons, boolsV, boolsV_map r]; rfl
theorem intsV_map {α : Type} {g : α → Int} : ∀ (l : List α), intsV (l.map fun x => V.int (g x)) = some (l.map g)
  | [] => rfl
  | x :: r => by rw [List.map_cons, intsV, intsV_map r]; rfl
theorem bi_all {α : Type} {g : α → Bool} {l : List α} : vBi σ .all [.lst (l.map fun x => V.bool (g x))] = some (.bool (l.all g)) := by
  show ((boolsV _).map fun l => V.bool (l.all id)) = _
  rw [boolsV_map, Option.map_some, List.all_map]; rfl
theorem bi_any {α : Type} {g : α → Bool} {l : List α} : vBi σ .any [.lst (l.map fun x => V.bool (g x))] = some (.bool (l.any g)) := by
  show ((boolsV _).map fun l => V.bool (l.any id)) = _
  rw [boolsV_map, Option.map_some, List.any_map]; rfl
theorem bi_sum {α : Type} {g : α → Int} {l : List α} : vBi σ .sum [.lst (l.map fun x => V.int (g x))] = some (.int (l.map g).sum) := by
  show ((intsV _).map fun l => V.int l.sum) = _
  rw [intsV_map]; rfl
theorem bi_max {α : Type} {g : α → Int} {l : List α} {i : Int} {r : List Int} (h : l.map g = i :: r) : vBi σ .max1 [.lst (l.map fun x => V.int (g x))] = some (.int (r.foldl max i)) := by
  show ((intsV _).bind vMax) = _
  rw [intsV_map, h]; rfl
theorem bi_min2 {a b : Int} : vBi σ .min2 [.int a, .int b] = some (.int (min a b)) := rfl
theorem bi_int {b : Bool} : vBi σ .int [.bool b] = some (.int (if b then 1 else 0)) := rfl
theorem bi_isBool {b : Bool} : vBi σ .isBool [.bool b] = some (.bool true) := rfl
theorem eq_ii {a b : Int} : vCmp σ .eq (.int a) (.int b) = some (a == b) := rfl
theorem eq_ss {a b : List Nat} : vCmp σ .eq (.str a) (.str b) = some (a == b) := rfl
theorem eq_bb {a b : Bool} : vCmp σ .eq (.bool a) (.bool b) = some (a == b) := rfl
theorem ne_ii {a b : Int} : vCmp σ .ne (.int a) (.int b) = some (!(a == b)) := rfl
theorem ne_ss {a b : List Nat} : vCmp σ .ne (.str a) (.str b) = some (!(a == b)) := rfl
theorem gt_ii {a b : Int} : vCmp σ .gt (.int a) (.int b) = some (decide (a > b)) := rfl
theorem true_l {xs : List V} : vTrue σ (.lst xs) = some (!xs.isEmpty) := rfl
theorem neg_i {a : Int} : vNeg (.int a) = some (.int (-a)) := rfl
theorem asInt_i {a : Int} : asInt (.int a) = some a := rfl

theorem getV_int {i : Nat} {x : Int} (h : Γ[i]? = some (.int x)) : getV Γ i = some (.int x) := by rw [getV, h]

theorem vIdx_seq {v : V} {xs : List V} {x : V} (k : Nat) (hk : k < 1000000) (hs : getSeq σ v = some xs) (h : xs[k]? = some x) : vIdx σ v (.int (k : Int)) = some x := by
  have hlt : k < xs.length := (List.getElem?_eq_some_iff.mp h).1
  have hn : nIdx (k : Int) xs.length = some k := by
    unfold nIdx
    rw [if_pos (by omega), if_pos (by omega)]; simp
  have hsm : small (k : Int) = true := small_of (by omega) (by omega)
  simp only [vIdx, hsm, hs, hn, if_true, Option.bind_some, h]
theorem idx_t0 {a : V} {r : List V} : vIdx σ (.tup (a :: r)) (.int 0) = some a := vIdx_seq 0 (by decide) rfl rfl
theorem idx_t1 {a b : V} {r : List V} : vIdx σ (.tup (a :: b :: r)) (.int 1) = some b := vIdx_seq 1 (by decide) rfl rfl
theorem idx_t2 {a b c : V} {r : List V} : vIdx σ (.tup (a :: b :: c :: r)) (.int 2) = some c := vIdx_seq 2 (by decide) rfl rfl
theorem idx_t3 {a b c d : V} {r : List V} : vIdx σ (.tup (a :: b :: c :: d :: r)) (.int 3) = some d := vIdx_seq 3 (by decide) rfl rfl
theorem idx_l0 {a : V} {r : List V} : vIdx σ (.lst (a :: r)) (.int 0) = some a := vIdx_seq 0 (by decide) rfl rfl

theorem clamp_n {k n : Nat} : clamp (k : Int) n = min k n := by
  unfold clamp; rw [if_neg (by omega), Int.toNat_natCast]
theorem cut_from {α : Type} {xs : List α} {i : Int} (k : Nat) (hi : i = (k : Int)) (hk : k ≤ xs.length) : cut xs (some i) none = xs.drop k := by
  subst hi
  show (xs.take xs.length).drop (clamp (k : Int) xs.length) = _
  rw [clamp_n, List.take_length]
  congr 1; omega
theorem cut_to {α : Type} {xs : List α} {i : Int} (k : Nat) (hi : i = (k : Int)) : cut xs none (some i) = xs.take k := by
  subst hi
  show (xs.take (clamp (k : Int) xs.length)).drop 0 = _
  rw [clamp_n, List.drop_zero, List.take_eq_take_iff]
  omega
theorem cut_mid {α : Type} {xs : List α} (a b : Nat) (h : a ≤ b) : cut xs (some (a : Int)) (some (b : Int)) = (xs.take b).drop a := by
  show (xs.take (clamp (b : Int) xs.length)).drop (clamp (a : Int) xs.length) = _
  rw [clamp_n, clamp_n]
  by_cases hb : b ≤ xs.length
  · rw [Nat.min_eq_left hb, show min a xs.length = a by omega]
  · rw [show min b xs.length = xs.length by omega, List.take_length, List.take_of_length_le (Nat.le_of_not_le hb)]
    by_cases ha : a ≤ xs.length
    · rw [Nat.min_eq_left ha]
    · rw [show min a xs.length = xs.length by omega, List.drop_of_length_le (Nat.le_refl _), List.drop_of_length_le (Nat.le_of_not_le ha)]
theorem cut_m1 {α : Type} {xs : List α} {i : Int} (hi : i = -1) : cut xs none (some i) = xs.dropLast := by
  subst hi
  show (xs.take (clamp (-1) xs.length)).drop 0 = _
  rw [List.drop_zero, List.dropLast_eq_take]
  congr 1
  unfold clamp
  rw [if_pos (by omega)]; omega
theorem vCut_l {xs : List V} {lo hi : Option Int} (h1 : smallO lo = true) (h2 : smallO hi = true) : vCut σ (.lst xs) lo hi = some (.lst (cut xs lo hi)) := by
  unfold vCut; rw [h1, h2]; rfl
theorem vCut_s {xs : List Nat} {lo hi : Option Int} (h1 : smallO lo = true) (h2 : smallO hi = true) : vCut σ (.str xs) lo hi = some (.str (cut xs lo hi)) := by
  unfold vCut; rw [h1, h2]; rfl
end
end Mine

namespace Mine

/-- the trees -/
inductive Tree where
  | take (b : Bool) (s : List Nat)
  | row (ts : List Tree)
  | pick (ts : List Tree)
  | maybe (t : Tree) (e : Bool)
  | many (t : Tree) (e : Bool)

mutual
noncomputable def Tree.v : Tree → V
  | .take b s => .tup [.str [116, 97, 107, 101], .bool b, .str s]
  | .row ts => .tup [.str [114, 111, 119], .tup (Tree.vs ts)]
  | .pick ts => .tup [.str [112, 105, 99, 107], .tup (Tree.vs ts)]
  | .maybe t e => .tup [.str [109, 97, 121, 98, 101], t.v, .bool e]
  | .many t e => .tup [.str [109, 97, 110, 121], t.v, .bool e]
noncomputable def Tree.vs : List Tree → List V
  | [] => []
  | t :: r => t.v :: Tree.vs r
end
theorem Tree.vs_map : ∀ (ts : List Tree), Tree.vs ts = ts.map Tree.v
  | [] => rfl
  | t :: r => by rw [Tree.vs, Tree.vs_map r]; rfl
theorem v_row {ts : List Tree} : (Tree.row ts).v = .tup [.str [114, 111, 119], .tup (ts.map Tree.v)] := by rw [← Tree.vs_map]; rfl
theorem v_pick {ts : List Tree} : (Tree.pick ts).v = .tup [.str [112, 105, 99, 107], .tup (ts.map Tree.v)] := by rw [← Tree.vs_map]; rfl
theorem v_maybe {t : Tree} {e : Bool} : (Tree.maybe t e).v = .tup [.str [109, 97, 121, 98, 101], t.v, .bool e] := rfl
theorem v_many {t : Tree} {e : Bool} : (Tree.many t e).v = .tup [.str [109, 97, 110, 121], t.v, .bool e] := rfl
theorem v_tup (t : Tree) : ∃ xs, t.v = .tup xs := by cases t <;> exact ⟨_, rfl⟩
theorem getV_t {Γ : Fm} {i : Nat} {t : Tree} (h : Γ[i]? = some t.v) : getV Γ i = some t.v := by
  obtain ⟨xs, e⟩ := v_tup t
  rw [getV, h, e]

mutual
noncomputable def Tree.bare : Tree → Bool
  | .take _ _ => false
  | .row ts => Tree.allB ts
  | .pick ts => Tree.anyB ts
  | .maybe _ _ => true
  | .many _ _ => true
noncomputable def Tree.allB : List Tree → Bool
  | [] => true
  | t :: r => t.bare && Tree.allB r
noncomputable def Tree.anyB : List Tree → Bool
  | [] => false
  | t :: r => t.bare || Tree.anyB r
end
theorem allB_eq : ∀ (ts : List Tree), Tree.allB ts = ts.all Tree.bare
  | [] => rfl
  | t :: r => by rw [Tree.allB, allB_eq r, List.all_cons]
theorem anyB_eq : ∀ (ts : List Tree), Tree.anyB ts = ts.any Tree.bare
  | [] => rfl
  | t :: r => by rw [Tree.anyB, anyB_eq r, List.any_cons]
theorem bare_row {ts : List Tree} : (Tree.row ts).bare = ts.all Tree.bare := by rw [← allB_eq, Tree.bare]
theorem bare_pick {ts : List Tree} : (Tree.pick ts).bare = ts.any Tree.bare := by rw [← anyB_eq, Tree.bare]

mutual
noncomputable def Tree.cnt : Tree → Int
  | .take _ _ => 1
  | .row ts => Tree.cnts ts
  | .pick ts => Tree.cnts ts + ts.length - 1
  | .maybe t _ => t.cnt + 1
  | .many t _ => t.cnt + 1
noncomputable def Tree.cnts : List Tree → Int
  | [] => 0
  | t :: r => t.cnt + Tree.cnts r
end
theorem cnts_eq : ∀ (ts : List Tree), Tree.cnts ts = (ts.map Tree.cnt).sum
  | [] => rfl
  | t :: r => by rw [Tree.cnts, cnts_eq r]; rfl
theorem cnt_row {ts : List Tree} : (Tree.row ts).cnt = (ts.map Tree.cnt).sum := by rw [← cnts_eq, Tree.cnt]
theorem cnt_pick {ts : List Tree} : (Tree.pick ts).cnt = (ts.map Tree.cnt).sum + ts.length - 1 := by rw [← cnts_eq, Tree.cnt]

mutual
noncomputable def Tree.dep : Tree → Nat
  | .take _ _ => 1
  | .row ts => 1 + Tree.deps ts
  | .pick ts => 1 + Tree.deps ts
  | .maybe t _ => t.dep + 1
  | .many t _ => t.dep + 1
noncomputable def Tree.deps : List Tree → Nat
  | [] => 0
  | t :: r => max t.dep (Tree.deps r)
end
theorem dep_row {ts : List Tree} : (Tree.row ts).dep = 1 + Tree.deps ts := by rw [Tree.dep]
theorem dep_pick {ts : List Tree} : (Tree.pick ts).dep = 1 + Tree.deps ts := by rw [Tree.dep]
theorem dep_maybe {t : Tree} {e : Bool} : (Tree.maybe t e).dep = t.dep + 1 := by rw [Tree.dep]
theorem dep_many {t : Tree} {e : Bool} : (Tree.many t e).dep = t.dep + 1 := by rw [Tree.dep]
theorem dep_take {b : Bool} {s : List Nat} : (Tree.take b s).dep = 1 := by rw [Tree.dep]
theorem dep_mem : ∀ {ts : List Tree} {t : Tree}, t ∈ ts → t.dep ≤ Tree.deps ts
  | x :: r, t, h => by
    rw [Tree.deps]
    rcases List.mem_cons.mp h with e | e
    · rw [e]; exact Nat.le_max_left _ _
    · exact Nat.le_trans (dep_mem e) (Nat.le_max_right _ _)
theorem deps_le {n : Nat} : ∀ {ts : List Tree}, (∀ t ∈ ts, t.dep ≤ n) → Tree.deps ts ≤ n
  | [], _ => Nat.zero_le _
  | x :: r, h => by rw [Tree.deps]; exact Nat.max_le.mpr ⟨h x List.mem_cons_self, deps_le fun t ht => h t (List.mem_cons_of_mem _ ht)⟩
theorem dep_pos (t : Tree) : 1 ≤ t.dep := by
  cases t <;> rw [Tree.dep] <;> omega
theorem deps_max : ∀ (ts : List Tree) (i : Nat), (ts.map fun t => (t.dep : Int)).foldl max (i : Int) = ((max i (Tree.deps ts) : Nat) : Int)
  | [], i => by rw [Tree.deps, Nat.max_zero]; rfl
  | t :: r, i => by
    rw [List.map_cons, List.foldl_cons, ← Lean.Omega.Int.ofNat_max, deps_max r, Tree.deps, Nat.max_assoc]

mutual
/-- the trees that the laws build -/
noncomputable def Tree.Ok : Tree → Prop
  | .take _ s => s.length ≤ 100 ∧ ∀ c ∈ s, c ∈ signs
  | .row ts => (ts.length ≠ 1 ∧ ts.length ≤ 1000) ∧ Tree.Oks ts
  | .pick ts => (2 ≤ ts.length ∧ ts.length ≤ 1000) ∧ Tree.Oks ts
  | .maybe t _ => t.Ok
  | .many t _ => t.Ok ∧ t.bare = false
noncomputable def Tree.Oks : List Tree → Prop
  | [] => True
  | t :: r => t.Ok ∧ Tree.Oks r
end
theorem Oks_iff : ∀ {ts : List Tree}, Tree.Oks ts ↔ ∀ t ∈ ts, t.Ok
  | [] => by rw [Tree.Oks]; simp
  | t :: r => by rw [Tree.Oks, Oks_iff]; simp
theorem ok_row {ts : List Tree} : (Tree.row ts).Ok ↔ (ts.length ≠ 1 ∧ ts.length ≤ 1000) ∧ ∀ t ∈ ts, t.Ok := by rw [Tree.Ok, Oks_iff]
theorem ok_pick {ts : List Tree} : (Tree.pick ts).Ok ↔ (2 ≤ ts.length ∧ ts.length ≤ 1000) ∧ ∀ t ∈ ts, t.Ok := by rw [Tree.Ok, Oks_iff]

mutual
/-- how many nodes -/
noncomputable def Tree.nod : Tree → Nat
  | .take _ _ => 1
  | .row ts => 1 + Tree.nods ts
  | .pick ts => 1 + Tree.nods ts
  | .maybe t _ => t.nod + 1
  | .many t _ => t.nod + 1
noncomputable def Tree.nods : List Tree → Nat
  | [] => 0
  | t :: r => t.nod + Tree.nods r
end
theorem nods_app : ∀ (a b : List Tree), Tree.nods (a ++ b) = Tree.nods a + Tree.nods b
  | [], b => by rw [List.nil_append, Tree.nods]; omega
  | t :: r, b => by rw [List.cons_append, Tree.nods, Tree.nods, nods_app r b]; omega
theorem nod_row {ts : List Tree} : (Tree.row ts).nod = 1 + Tree.nods ts := by rw [Tree.nod]
theorem nod_pick {ts : List Tree} : (Tree.pick ts).nod = 1 + Tree.nods ts := by rw [Tree.nod]
theorem nod_maybe {t : Tree} {e : Bool} : (Tree.maybe t e).nod = t.nod + 1 := by rw [Tree.nod]
theorem nod_many {t : Tree} {e : Bool} : (Tree.many t e).nod = t.nod + 1 := by rw [Tree.nod]
theorem nod_take {b : Bool} {s : List Nat} : (Tree.take b s).nod = 1 := by rw [Tree.nod]
theorem nods_one {t : Tree} : Tree.nods [t] = t.nod := by rw [Tree.nods, Tree.nods]; omega

/-- an item of a law's stack -/
noncomputable def item (t : Tree) : V := .tup [t.v, .bool t.bare, .int t.cnt, .int (t.dep : Int)]

section
variable {gl : List V} {cf : CF} {σ : Sg} {P : List Def}

theorem loop_all {a : V} : ∀ {ts : List Tree} {y : V}, (∀ t ∈ ts, cf 10 [t.v] σ = .ok (.bool t.bare) σ) → ∃ y', forGo (exB gl cf [.ite (.not (.call 10 [.var 1])) [.ret (.cBool false)] []]) 1 (ts.map Tree.v) [a, y] σ
      = .ok (if ts.all Tree.bare then .next else .ret (.bool false), [a, y']) σ
  | [], y, _ => ⟨y, rfl⟩
  | t :: r, y, h => by
    obtain ⟨y', ih⟩ := loop_all (a := a) (y := t.v) fun u hu => h u (List.mem_cons_of_mem _ hu)
    have h2 : evE gl cf (.not (.call 10 [.var 1])) [a, t.v] σ = .ok (.bool (!t.bare)) σ := by
      simp only [evE_cNone, evE_cBool, evE_cInt, evE_cStr, evE_var, evE_glob, evE_and, evE_or, evE_not, evE_neg, evE_bin, evE_cmp, evE_cmp2, evE_ite, evE_tup, evE_lst, evE_call, evE_bi, evE_join, evE_idx, evE_slice, evEs_nil, evEs_cons, evO_none, evO_some, getV_t (Γ := [a, t.v]) (i := 1) rfl, of_some, bind_ok, h t List.mem_cons_self, true_b]
    cases hb : t.bare with
    | true =>
      refine ⟨y', ?_⟩
      rw [List.map_cons, forGo_next (Γ' := [a, t.v]) ((exB_skip h2 (by rw [hb]; rfl)).trans exB_nil0), ih, List.all_cons, hb, Bool.true_and]
    | false =>
      refine ⟨t.v, ?_⟩
      rw [List.map_cons, forGo_ret (v := .bool false) (Γ' := [a, t.v]) (exB_take h2 (by rw [hb]; rfl) (exB_rets evE_cBool)), List.all_cons, hb]
      rfl
theorem loop_any {a : V} : ∀ {ts : List Tree} {y : V}, (∀ t ∈ ts, cf 10 [t.v] σ = .ok (.bool t.bare) σ) → ∃ y', forGo (exB gl cf [.ite (.call 10 [.var 1]) [.ret (.cBool true)] []]) 1 (ts.map Tree.v) [a, y] σ
      = .ok (if ts.any Tree.bare then .ret (.bool true) else .next, [a, y']) σ
  | [], y, _ => ⟨y, rfl⟩
  | t :: r, y, h => by
    obtain ⟨y', ih⟩ := loop_any (a := a) (y := t.v) fun u hu => h u (List.mem_cons_of_mem _ hu)
    have h2 : evE gl cf (.call 10 [.var 1]) [a, t.v] σ = .ok (.bool (t.bare)) σ := by
      simp only [evE_cNone, evE_cBool, evE_cInt, evE_cStr, evE_var, evE_glob, evE_and, evE_or, evE_not, evE_neg, evE_bin, evE_cmp, evE_cmp2, evE_ite, evE_tup, evE_lst, evE_call, evE_bi, evE_join, evE_idx, evE_slice, evEs_nil, evEs_cons, evO_none, evO_some, getV_t (Γ := [a, t.v]) (i := 1) rfl, of_some, bind_ok, h t List.mem_cons_self, true_b]
    cases hb : t.bare with
    | false =>
      refine ⟨y', ?_⟩
      rw [List.map_cons, forGo_next (Γ' := [a, t.v]) ((exB_skip h2 (by rw [hb]; rfl)).trans exB_nil0), ih, List.any_cons, hb, Bool.false_or]
    | true =>
      refine ⟨t.v, ?_⟩
      rw [List.map_cons, forGo_ret (v := .bool true) (Γ' := [a, t.v]) (exB_take h2 (by rw [hb]; rfl) (exB_rets evE_cBool)), List.any_cons, hb]
      rfl
end
end Mine

namespace Mine

section
variable {gl : List V} {cf : CF} {σ : Sg} {Γ : Fm} {P : List Def}

theorem tag_eq {i : Nat} {s w : List Nat} {r : List V} (h : Γ[i]? = some (.tup (.str s :: r))) : evE gl cf (.cmp .eq (.idx (.var i) (.cInt 0)) (.cStr w)) Γ σ = .ok (.bool (s == w)) σ := by
  simp only [evE_cNone, evE_cBool, evE_cInt, evE_cStr, evE_var, evE_glob, evE_and, evE_or, evE_not, evE_neg, evE_bin, evE_cmp, evE_cmp2, evE_ite, evE_tup, evE_lst, evE_call, evE_bi, evE_join, evE_idx, evE_slice, evEs_nil, evEs_cons, evO_none, evO_some, getV, h, of_some, bind_ok, idx_t0, eq_ss]
theorem tag_1 {i : Nat} {a b : V} {r : List V} (h : Γ[i]? = some (.tup (a :: b :: r))) : evE gl cf (.idx (.var i) (.cInt 1)) Γ σ = .ok b σ := by
  simp only [evE_cNone, evE_cBool, evE_cInt, evE_cStr, evE_var, evE_glob, evE_and, evE_or, evE_not, evE_neg, evE_bin, evE_cmp, evE_cmp2, evE_ite, evE_tup, evE_lst, evE_call, evE_bi, evE_join, evE_idx, evE_slice, evEs_nil, evEs_cons, evO_none, evO_some, getV, h, of_some, bind_ok, idx_t1]

theorem bare_body (t : Tree) (hcf : ∀ u : Tree, u.dep < t.dep → cf 10 [u.v] σ = .ok (.bool u.bare) σ) : ∃ Γ, exB gl cf d_bare.body [t.v, .undef] σ = .ok (.ret (.bool t.bare), Γ) σ := by
  cases t with
  | take b s => exact ⟨_, exB_take (tag_eq rfl) rfl (exB_rets evE_cBool)⟩
  | maybe t e =>
    refine ⟨[(Tree.maybe t e).v, .undef], ?_⟩
    rw [v_maybe]
    exact (exB_skip (tag_eq rfl) rfl).trans ((exB_skip (tag_eq rfl) rfl).trans ((exB_skip (tag_eq rfl) rfl).trans (exB_rets evE_cBool)))
  | many t e =>
    refine ⟨[(Tree.many t e).v, .undef], ?_⟩
    rw [v_many]
    exact (exB_skip (tag_eq rfl) rfl).trans ((exB_skip (tag_eq rfl) rfl).trans ((exB_skip (tag_eq rfl) rfl).trans (exB_rets evE_cBool)))
  | row ts =>
    obtain ⟨y, hl⟩ := loop_all (gl := gl) (cf := cf) (σ := σ) (a := (Tree.row ts).v) (ts := ts) (y := .undef) fun u hu => hcf u (by rw [dep_row]; have := dep_mem hu; omega)
    refine ⟨[(Tree.row ts).v, y], ?_⟩
    rw [v_row] at hl ⊢
    refine (exB_skip (tag_eq rfl) rfl).trans (exB_take (tag_eq rfl) rfl ?_)
    have hf := (exS_for (i := 1) (ik := .val) (b := .cNone) (body := [.ite (.not (.call 10 [.var 1])) [.ret (.cBool false)] []]) (tag_1 (gl := gl) (cf := cf) (σ := σ) (Γ := [.tup [.str [114, 111, 119], .tup (ts.map Tree.v)], .undef]) (i := 0) rfl) evE_cNone rfl).trans hl
    rw [bare_row]
    cases hb : ts.all Tree.bare with
    | true => rw [hb] at hf; exact (exB_next hf).trans (exB_rets evE_cBool)
    | false => rw [hb] at hf; exact exB_ret hf
  | pick ts =>
    obtain ⟨y, hl⟩ := loop_any (gl := gl) (cf := cf) (σ := σ) (a := (Tree.pick ts).v) (ts := ts) (y := .undef) fun u hu => hcf u (by rw [dep_pick]; have := dep_mem hu; omega)
    refine ⟨[(Tree.pick ts).v, y], ?_⟩
    rw [v_pick] at hl ⊢
    refine (exB_skip (tag_eq rfl) rfl).trans ((exB_skip (tag_eq rfl) rfl).trans (exB_take (tag_eq rfl) rfl ?_))
    have hf := (exS_for (i := 1) (ik := .val) (b := .cNone) (body := [.ite (.call 10 [.var 1]) [.ret (.cBool true)] []]) (tag_1 (gl := gl) (cf := cf) (σ := σ) (Γ := [.tup [.str [112, 105, 99, 107], .tup (ts.map Tree.v)], .undef]) (i := 0) rfl) evE_cNone rfl).trans hl
    rw [bare_pick]
    cases hb : ts.any Tree.bare with
    | false => rw [hb] at hf; exact (exB_next hf).trans (exB_rets evE_cBool)
    | true => rw [hb] at hf; exact exB_ret hf

theorem call_bare (H : P[10]? = some d_bare) : ∀ (d : Nat) (t : Tree), t.dep ≤ d → callF gl P d 10 [t.v] σ = .ok (.bool t.bare) σ
  | 0, t, h => by have := dep_pos t; omega
  | d + 1, t, h => by
    obtain ⟨Γ, hb⟩ := bare_body (gl := gl) (cf := callF gl P d) (σ := σ) t fun u hu => call_bare H d u (by omega)
    exact callF_ret (D := d_bare) H rfl hb

/-! ### building -/
theorem sign_mem (c : Int) : sign c ∈ signs := by
  obtain ⟨h1, h2⟩ := fmod_range c (b := 96) (by decide)
  have hlt : (c.fmod 96).toNat < signs.length := by show _ < 96; omega
  unfold sign
  rw [List.getD_eq_getElem?_getD, List.getElem?_eq_getElem hlt]
  exact List.getElem_mem hlt

/-- three signs -/
noncomputable def Three (l : List Nat) : Prop := ∃ a b c, l = [a, b, c] ∧ a ∈ signs ∧ b ∈ signs ∧ c ∈ signs

theorem three_idx {l : List Nat} (h : Three l) (i : Int) : ∃ c, vIdx σ (.str l) (.int (i.fmod 3)) = some (.str [c]) ∧ c ∈ signs := by
  obtain ⟨a, b, c, rfl, h1, h2, h3⟩ := h
  obtain ⟨q1, q2⟩ := fmod_range i (b := 3) (by decide)
  obtain ⟨k, hk⟩ : ∃ k : Nat, i.fmod 3 = (k : Int) := ⟨(i.fmod 3).toNat, by omega⟩
  rw [hk]
  match k, (show k < 3 by omega) with
  | 0, _ => exact ⟨a, vIdx_seq 0 (by decide) rfl rfl, h1⟩
  | 1, _ => exact ⟨b, vIdx_seq 1 (by decide) rfl rfl, h2⟩
  | 2, _ => exact ⟨c, vIdx_seq 2 (by decide) rfl rfl, h3⟩

theorem cut_len {s : List Nat} {k : Nat} : (s.take k).length ≤ k := by rw [List.length_take]; omega

theorem take_loop (hs : ∀ c σ, cf 1 [.int c] σ = .ok (.str [sign c]) σ) {c : Int} {a1 a2 a4 : V} : ∀ (js : List Nat) (s : List Nat) (y : V), (∀ j ∈ js, j < 1000) → s.length + js.length ≤ 1000 → (∀ x ∈ s, x ∈ signs) →
    ∃ s' y', forGo (exB gl cf [.asg 3 (.bin .add (.var 3) (.call 1 [(.bin .add (.bin .fdiv (.var 0) (.cInt 3456)) (.bin .mul (.cInt 37) (.var 5)))]))]) 5 (js.map fun (j : Nat) => V.int (j : Int)) [.int c, a1, a2, .str s, a4, y] σ
      = .ok (.next, [.int c, a1, a2, .str s', a4, y']) σ ∧ s'.length ≤ 1000 ∧ ∀ x ∈ s', x ∈ signs
  | [], s, y, _, h2, h3 => ⟨s, y, rfl, by simpa using h2, h3⟩
  | j :: js, s, y, h1, h2, h3 => by
    have hj := h1 j List.mem_cons_self
    rw [List.length_cons] at h2
    obtain ⟨s', y', ih, g⟩ := take_loop hs (c := c) (a1 := a1) (a2 := a2) (a4 := a4) js (s ++ [sign (c.fdiv 3456 + 37 * (j : Int))]) (.int (j : Int)) (fun i hi => h1 i (List.mem_cons_of_mem _ hi)) (by rw [List.length_append]; simp only [List.length_cons, List.length_nil]; omega) fun x hx => by
      rcases List.mem_append.mp hx with q | q
      · exact h3 x q
      · rw [List.mem_singleton.mp q]; exact sign_mem _
    refine ⟨s', y', ?_, g⟩
    have hm : vBin σ .mul (.int 37) (.int (j : Int)) = some (.int (37 * (j : Int))) := vBin_mul rfl
    have ha : vBin σ .add (.str s) (.str [sign (c.fdiv 3456 + 37 * (j : Int))]) = some (.str (s ++ [sign (c.fdiv 3456 + 37 * (j : Int))])) := vBin_addS (by simp only [List.length_cons, List.length_nil]; unfold roomy; omega)
    have he : evE gl cf (.bin .add (.var 3) (.call 1 [(.bin .add (.bin .fdiv (.var 0) (.cInt 3456)) (.bin .mul (.cInt 37) (.var 5)))])) [.int c, a1, a2, .str s, a4, .int (j : Int)] σ = .ok (.str (s ++ [sign (c.fdiv 3456 + 37 * (j : Int))])) σ := by
      simp only [evE_cNone, evE_cBool, evE_cInt, evE_cStr, evE_var, evE_glob, evE_and, evE_or, evE_not, evE_neg, evE_bin, evE_cmp, evE_cmp2, evE_ite, evE_tup, evE_lst, evE_call, evE_bi, evE_join, evE_idx, evE_slice, evEs_nil, evEs_cons, evO_none, evO_some, getV, List.getElem?_cons_zero, List.getElem?_cons_succ, of_some, bind_ok, vBin_fdiv (a := c) (b := 3456) (σ := σ) rfl (by decide), hm, vBin_add, hs, ha]
    rw [List.map_cons, forGo_next (Γ' := [.int c, a1, a2, .str (s ++ [sign (c.fdiv 3456 + 37 * (j : Int))]), a4, .int (j : Int)]) ((exB_asg he).trans exB_nil0)]
    exact ih

theorem take_body (hs : ∀ c σ, cf 1 [.int c] σ = .ok (.str [sign c]) σ) (c : Int) {l : List Nat} (hl : Three l) : ∃ b s Γ, exB gl cf d_l_take_by_v02.body [.int c, .str l, .undef, .undef, .undef, .undef] σ = .ok (.ret (Tree.take b s).v, Γ) σ ∧ (Tree.take b s).Ok := by
  obtain ⟨x1, e1, m1⟩ := three_idx (σ := σ) hl (c.fdiv 8)
  obtain ⟨x2, e2, m2⟩ := three_idx (σ := σ) hl (c.fdiv 24)
  have hw : evE gl cf (.bin .mod (.var 0) (.cInt 8)) [.int c, .str l, .undef, .undef, .undef, .undef] σ = .ok (.int (c.fmod 8)) σ := by
    simp only [evE_cNone, evE_cBool, evE_cInt, evE_cStr, evE_var, evE_glob, evE_and, evE_or, evE_not, evE_neg, evE_bin, evE_cmp, evE_cmp2, evE_ite, evE_tup, evE_lst, evE_call, evE_bi, evE_join, evE_idx, evE_slice, evEs_nil, evEs_cons, evO_none, evO_some, getV, List.getElem?_cons_zero, List.getElem?_cons_succ, of_some, bind_ok, vBin_mod (a := c) (b := 8) (σ := σ) (by decide)]
  have hsome : evE gl cf (.bin .add (.idx (.var 1) (.bin .mod (.bin .fdiv (.var 0) (.cInt 8)) (.cInt 3))) (.idx (.var 1) (.bin .mod (.bin .fdiv (.var 0) (.cInt 24)) (.cInt 3)))) [.int c, .str l, .int (c.fmod 8), .undef, .undef, .undef] σ = .ok (.str [x1, x2]) σ := by
    simp only [evE_cNone, evE_cBool, evE_cInt, evE_cStr, evE_var, evE_glob, evE_and, evE_or, evE_not, evE_neg, evE_bin, evE_cmp, evE_cmp2, evE_ite, evE_tup, evE_lst, evE_call, evE_bi, evE_join, evE_idx, evE_slice, evEs_nil, evEs_cons, evO_none, evO_some, getV, List.getElem?_cons_zero, List.getElem?_cons_succ, of_some, bind_ok, vBin_fdiv (a := c) (b := 8) (σ := σ) rfl (by decide), vBin_fdiv (a := c) (b := 24) (σ := σ) rfl (by decide), vBin_mod (b := 3) (σ := σ) (show (3 : Int) ≠ 0 by decide), e1, e2, vBin_addS (a := [x1]) (b := [x2]) (σ := σ) (by simp [roomy])]
    rfl
  have st : ∀ Γ', exB gl cf (d_l_take_by_v02.body.drop 2) [.int c, .str l, .int (c.fmod 8), .str [x1, x2], .undef, .undef] σ = Γ' → exB gl cf d_l_take_by_v02.body [.int c, .str l, .undef, .undef, .undef, .undef] σ = Γ' := fun Γ' h => ((exB_asg hw).trans (exB_asg hsome)).trans h
  obtain ⟨q1, q2⟩ := fmod_range c (b := 8) (by decide)
  have mem2 : ∀ x ∈ [x1, x2], x ∈ signs := by
    intro x hx
    rcases List.mem_cons.mp hx with q | q
    · exact q ▸ m1
    · rw [List.mem_singleton.mp q]; exact m2
  by_cases w0 : c.fmod 8 = 0
  · refine ⟨false, [], _, st _ (exB_take (v := .bool true) (σ' := σ) ?_ rfl (exB_rets ?_)), by rw [Tree.Ok]; simp⟩
    · simp only [evE_cNone, evE_cBool, evE_cInt, evE_cStr, evE_var, evE_glob, evE_and, evE_or, evE_not, evE_neg, evE_bin, evE_cmp, evE_cmp2, evE_ite, evE_tup, evE_lst, evE_call, evE_bi, evE_join, evE_idx, evE_slice, evEs_nil, evEs_cons, evO_none, evO_some, getV, List.getElem?_cons_zero, List.getElem?_cons_succ, of_some, bind_ok, eq_ii, w0]; rfl
    · simp only [evE_cNone, evE_cBool, evE_cInt, evE_cStr, evE_var, evE_glob, evE_and, evE_or, evE_not, evE_neg, evE_bin, evE_cmp, evE_cmp2, evE_ite, evE_tup, evE_lst, evE_call, evE_bi, evE_join, evE_idx, evE_slice, evEs_nil, evEs_cons, evO_none, evO_some, bind_ok, tup3]; rfl
  have t0 : evE gl cf (.cmp .eq (.var 2) (.cInt 0)) [.int c, .str l, .int (c.fmod 8), .str [x1, x2], .undef, .undef] σ = .ok (.bool false) σ := by
    simp only [evE_cNone, evE_cBool, evE_cInt, evE_cStr, evE_var, evE_glob, evE_and, evE_or, evE_not, evE_neg, evE_bin, evE_cmp, evE_cmp2, evE_ite, evE_tup, evE_lst, evE_call, evE_bi, evE_join, evE_idx, evE_slice, evEs_nil, evEs_cons, evO_none, evO_some, getV, List.getElem?_cons_zero, List.getElem?_cons_succ, of_some, bind_ok, eq_ii, beq_eq_false_iff_ne.mpr w0]
  by_cases w2 : c.fmod 8 > 2
  · refine ⟨true, [x1], _, st _ ((exB_skip t0 rfl).trans (exB_take (v := .bool true) (σ' := σ) ?_ rfl (exB_rets ?_))), by rw [Tree.Ok]; exact ⟨by simp, fun x hx => by rw [List.mem_singleton.mp hx]; exact m1⟩⟩
    · simp only [evE_cNone, evE_cBool, evE_cInt, evE_cStr, evE_var, evE_glob, evE_and, evE_or, evE_not, evE_neg, evE_bin, evE_cmp, evE_cmp2, evE_ite, evE_tup, evE_lst, evE_call, evE_bi, evE_join, evE_idx, evE_slice, evEs_nil, evEs_cons, evO_none, evO_some, getV, List.getElem?_cons_zero, List.getElem?_cons_succ, of_some, bind_ok, gt_ii, decide_eq_true w2]
    · simp only [evE_cNone, evE_cBool, evE_cInt, evE_cStr, evE_var, evE_glob, evE_and, evE_or, evE_not, evE_neg, evE_bin, evE_cmp, evE_cmp2, evE_ite, evE_tup, evE_lst, evE_call, evE_bi, evE_join, evE_idx, evE_slice, evEs_nil, evEs_cons, evO_none, evO_some, getV, List.getElem?_cons_zero, List.getElem?_cons_succ, of_some, bind_ok, asInt_i, vCut_s (σ := σ) (xs := [x1, x2]) (lo := none) (hi := some 1) rfl rfl, cut_to (xs := [x1, x2]) 1 rfl, tup3]; rfl
  have t2 : evE gl cf (.cmp .gt (.var 2) (.cInt 2)) [.int c, .str l, .int (c.fmod 8), .str [x1, x2], .undef, .undef] σ = .ok (.bool false) σ := by
    simp only [evE_cNone, evE_cBool, evE_cInt, evE_cStr, evE_var, evE_glob, evE_and, evE_or, evE_not, evE_neg, evE_bin, evE_cmp, evE_cmp2, evE_ite, evE_tup, evE_lst, evE_call, evE_bi, evE_join, evE_idx, evE_slice, evEs_nil, evEs_cons, evO_none, evO_some, getV, List.getElem?_cons_zero, List.getElem?_cons_succ, of_some, bind_ok, gt_ii, decide_eq_false w2]
  have hm0 : evE gl cf (.bin .mod (.bin .fdiv (.var 0) (.cInt 72)) (.cInt 4)) [.int c, .str l, .int (c.fmod 8), .str [x1, x2], .undef, .undef] σ = .ok (.int ((c.fdiv 72).fmod 4)) σ := by
    simp only [evE_cNone, evE_cBool, evE_cInt, evE_cStr, evE_var, evE_glob, evE_and, evE_or, evE_not, evE_neg, evE_bin, evE_cmp, evE_cmp2, evE_ite, evE_tup, evE_lst, evE_call, evE_bi, evE_join, evE_idx, evE_slice, evEs_nil, evEs_cons, evO_none, evO_some, getV, List.getElem?_cons_zero, List.getElem?_cons_succ, of_some, bind_ok, vBin_fdiv (a := c) (b := 72) (σ := σ) rfl (by decide), vBin_mod (b := 4) (σ := σ) (show (4 : Int) ≠ 0 by decide)]
  have hmany : ∃ m : Nat, m ≤ 15 ∧ ∀ r, exB gl cf (.ite (.cmp .eq (.var 4) (.cInt 3)) [.asg 4 (.bin .add (.cInt 3) (.bin .mod (.bin .fdiv (.var 0) (.cInt 288)) (.cInt 12)))] [] :: r) [.int c, .str l, .int (c.fmod 8), .str [x1, x2], .int ((c.fdiv 72).fmod 4), .undef] σ
      = exB gl cf r [.int c, .str l, .int (c.fmod 8), .str [x1, x2], .int (m : Int), .undef] σ := by
    obtain ⟨p1, p2⟩ := fmod_range (c.fdiv 72) (b := 4) (by decide)
    obtain ⟨p3, p4⟩ := fmod_range (c.fdiv 288) (b := 12) (by decide)
    by_cases w3 : (c.fdiv 72).fmod 4 = 3
    · refine ⟨(3 + (c.fdiv 288).fmod 12).toNat, by omega, fun r => ?_⟩
      refine exB_into (v := .bool true) (σ' := σ) ?_ rfl ((exB_asg (v := .int ((3 + (c.fdiv 288).fmod 12).toNat : Int)) (σ' := σ) ?_).trans exB_nil0)
      · simp only [evE_cNone, evE_cBool, evE_cInt, evE_cStr, evE_var, evE_glob, evE_and, evE_or, evE_not, evE_neg, evE_bin, evE_cmp, evE_cmp2, evE_ite, evE_tup, evE_lst, evE_call, evE_bi, evE_join, evE_idx, evE_slice, evEs_nil, evEs_cons, evO_none, evO_some, getV, List.getElem?_cons_zero, List.getElem?_cons_succ, of_some, bind_ok, eq_ii, w3]; rfl
      · rw [show (((3 + (c.fdiv 288).fmod 12).toNat : Nat) : Int) = 3 + (c.fdiv 288).fmod 12 by omega]
        simp only [evE_cNone, evE_cBool, evE_cInt, evE_cStr, evE_var, evE_glob, evE_and, evE_or, evE_not, evE_neg, evE_bin, evE_cmp, evE_cmp2, evE_ite, evE_tup, evE_lst, evE_call, evE_bi, evE_join, evE_idx, evE_slice, evEs_nil, evEs_cons, evO_none, evO_some, getV, List.getElem?_cons_zero, List.getElem?_cons_succ, of_some, bind_ok, vBin_fdiv (a := c) (b := 288) (σ := σ) rfl (by decide), vBin_mod (b := 12) (σ := σ) (show (12 : Int) ≠ 0 by decide), vBin_add]
    · refine ⟨((c.fdiv 72).fmod 4).toNat, by omega, fun r => ?_⟩
      rw [show (((c.fdiv 72).fmod 4).toNat : Int) = (c.fdiv 72).fmod 4 by omega]
      refine exB_skip (v := .bool false) (σ' := σ) ?_ rfl
      simp only [evE_cNone, evE_cBool, evE_cInt, evE_cStr, evE_var, evE_glob, evE_and, evE_or, evE_not, evE_neg, evE_bin, evE_cmp, evE_cmp2, evE_ite, evE_tup, evE_lst, evE_call, evE_bi, evE_join, evE_idx, evE_slice, evEs_nil, evEs_cons, evO_none, evO_some, getV, List.getElem?_cons_zero, List.getElem?_cons_succ, of_some, bind_ok, eq_ii, beq_eq_false_iff_ne.mpr w3]
  obtain ⟨m, hm, hmr⟩ := hmany
  obtain ⟨s', y', hlp, hlen, hall⟩ := take_loop (gl := gl) (cf := cf) (σ := σ) hs (c := c) (a1 := .str l) (a2 := .int (c.fmod 8)) (a4 := .int (m : Int)) (List.range m) [x1, x2] .undef (fun j hj => by have := List.mem_range.mp hj; omega) (by simp only [List.length_cons, List.length_nil, List.length_range]; omega) mem2
  refine ⟨c.fmod 8 == 2, s'.take m, _, st _ ((exB_skip t0 rfl).trans ((exB_skip t2 rfl).trans ((exB_asg hm0).trans ((hmr _).trans ((exB_next ((exS_for (x := .int (m : Int)) (y := .none) (σ₁ := σ) (σ₂ := σ) ?_ evE_cNone (items_rng (by omega))).trans hlp)).trans (exB_rets ?_)))))), ?_⟩
  · rfl
  · simp only [evE_cNone, evE_cBool, evE_cInt, evE_cStr, evE_var, evE_glob, evE_and, evE_or, evE_not, evE_neg, evE_bin, evE_cmp, evE_cmp2, evE_ite, evE_tup, evE_lst, evE_call, evE_bi, evE_join, evE_idx, evE_slice, evEs_nil, evEs_cons, evO_none, evO_some, getV, List.getElem?_cons_zero, List.getElem?_cons_succ, of_some, bind_ok, asInt_i, eq_ii, vCut_s (σ := σ) (xs := s') (lo := none) (hi := some (m : Int)) rfl (small_of (by omega) (by omega)), cut_to (xs := s') m rfl, tup3]; rfl
  · rw [Tree.Ok]; exact ⟨Nat.le_trans cut_len (Nat.le_trans hm (by decide)), fun x hx => hall x (List.mem_of_mem_take hx)⟩

theorem call_take (H : HS P) (h5 : P[5]? = some d_l_take_by_v02) {d : Nat} (c : Int) {l : List Nat} (hl : Three l) : ∃ b s, callF gl P (d + 2) 5 [.int c, .str l] σ = .ok (Tree.take b s).v σ ∧ (Tree.take b s).Ok := by
  obtain ⟨b, s, Γ, h, ok⟩ := take_body (gl := gl) (cf := callF gl P (d + 1)) (σ := σ) (fun c σ => call_sign H c) c hl
  exact ⟨b, s, callF_ret (D := d_l_take_by_v02) h5 rfl h, ok⟩
end
end Mine

namespace Mine

section
variable {gl : List V} {cf : CF} {σ : Sg} {Γ : Fm} {P : List Def}

theorem and_bb {a b : Ex} {p q : Bool} (h1 : evE gl cf a Γ σ = .ok (.bool p) σ) (h2 : p = true → evE gl cf b Γ σ = .ok (.bool q) σ) : evE gl cf (.and a b) Γ σ = .ok (.bool (p && q)) σ := by
  rw [evE_and, h1, bind_ok, true_b, of_some, bind_ok]
  cases p with
  | true => rw [if_pos rfl, h2 rfl, Bool.true_and]
  | false => rw [if_neg Bool.false_ne_true, Bool.false_and]
theorem or_bb {a b : Ex} {p q : Bool} (h1 : evE gl cf a Γ σ = .ok (.bool p) σ) (h2 : p = false → evE gl cf b Γ σ = .ok (.bool q) σ) : evE gl cf (.or a b) Γ σ = .ok (.bool (p || q)) σ := by
  rw [evE_or, h1, bind_ok, true_b, of_some, bind_ok]
  cases p with
  | true => rw [if_pos rfl, Bool.true_or]
  | false => rw [if_neg Bool.false_ne_true, h2 rfl, Bool.false_or]
theorem not_bb {a : Ex} {p : Bool} (h1 : evE gl cf a Γ σ = .ok (.bool p) σ) : evE gl cf (.not a) Γ σ = .ok (.bool (!p)) σ := by
  rw [evE_not, h1, bind_ok, true_b, of_some, bind_ok]

noncomputable def joinT (way : Int) (ts : List Tree) : Tree := if way = 5 then .pick ts else .row ts

theorem item_comp {a : Ex} {Q : List Tree} {j : Int} {k : Tree → V} {v0 v1 v2 v3 v4 v5 v6 v7 v8 : V} (ha : evE gl cf a [v0, v1, v2, v3, v4, v5, v6, v7, v8] σ = .ok (.lst (Q.map item)) σ) (hk : ∀ t : Tree, vIdx σ (item t) (.int j) = some (k t)) (hQ : Q.length ≤ roomy) :
    evE gl cf (.comp false (.idx (.var 9) (.cInt j)) .val a .cNone none) [v0, v1, v2, v3, v4, v5, v6, v7, v8] σ = .ok (.lst (Q.map k)) σ := by
  refine evE_compM ha evE_cNone rfl (fun z _ => ?_) hQ
  have hv : getV ([v0, v1, v2, v3, v4, v5, v6, v7, v8] ++ [item z]) 9 = some (item z) := rfl
  simp only [evE_cNone, evE_cBool, evE_cInt, evE_cStr, evE_var, evE_glob, evE_and, evE_or, evE_not, evE_neg, evE_bin, evE_cmp, evE_cmp2, evE_ite, evE_tup, evE_lst, evE_call, evE_bi, evE_join, evE_idx, evE_slice, evEs_nil, evEs_cons, evO_none, evO_some, hv, of_some, bind_ok, hk]

theorem item_0 (t : Tree) : vIdx σ (item t) (.int 0) = some t.v := idx_t0
theorem item_1 (t : Tree) : vIdx σ (item t) (.int 1) = some (.bool t.bare) := idx_t1
theorem item_2 (t : Tree) : vIdx σ (item t) (.int 2) = some (.int t.cnt) := idx_t2
theorem item_3 (t : Tree) : vIdx σ (item t) (.int 3) = some (.int (t.dep : Int)) := idx_t3

theorem max_dep {Q : List Tree} (h : Q ≠ []) : vBi σ .max1 [.lst (Q.map fun t => V.int (t.dep : Int))] = some (.int (Tree.deps Q : Int)) := by
  cases Q with
  | nil => exact (h rfl).elim
  | cons q r =>
    rw [bi_max (g := fun t : Tree => (t.dep : Int)) (i := (q.dep : Int)) (r := r.map fun t => (t.dep : Int)) rfl, deps_max, Tree.deps]

theorem drop_parts {S : List Tree} {m : Nat} (h2 : m ≤ S.length) : (S.drop (S.length - m)).length = m := by rw [List.length_drop]; omega

theorem stack_cuts {S : List Tree} {m : Nat} (h2 : m ≤ S.length) (hS : S.length ≤ 1000) : vCut σ (.lst (S.map item)) (some ((S.length : Int) - (m : Int))) none = some (.lst ((S.drop (S.length - m)).map item)) ∧
    vCut σ (.lst (S.map item)) none (some ((S.length : Int) - (m : Int))) = some (.lst ((S.take (S.length - m)).map item)) := by
  have e : (S.length : Int) - (m : Int) = ((S.length - m : Nat) : Int) := by omega
  have hs : smallO (some ((S.length : Int) - (m : Int))) = true := small_of (by omega) (by omega)
  rw [vCut_l hs rfl, vCut_l rfl hs, cut_from _ e (by rw [List.length_map]; omega), cut_to _ e, List.map_drop, List.map_take]
  exact ⟨rfl, rfl⟩

theorem joined_body (way : Int) (S : List Tree) (m : Nat) (h1 : 1 ≤ m) (h2 : m ≤ S.length) (hS : S.length ≤ 1000) : ∃ Γ, exB gl cf d_l_joined_by_v02.body [.int way, .lst (S.map item), .int (m : Int), .undef, .undef, .undef, .undef, .undef, .undef] σ
    = .ok (.ret (.lst ((S.take (S.length - m) ++ [joinT way (S.drop (S.length - m))]).map item)), Γ) σ := by
  obtain ⟨e1, e2⟩ := stack_cuts (σ := σ) h2 hS
  have hQl := drop_parts h2
  have hlen : vBi σ .len [.lst (S.map item)] = some (.int (S.length : Int)) := by rw [bi_len_l, List.length_map]
  generalize hQ : S.drop (S.length - m) = Q at e1 hQl ⊢
  generalize hK : S.take (S.length - m) = K at e2 ⊢
  have hKl : K.length ≤ 1000 := by rw [← hK, List.length_take]; omega
  have hQ1 : Q.length ≤ roomy := by rw [hQl]; unfold roomy; omega
  have hQ0 : Q ≠ [] := by intro e; rw [e] at hQl; simp at hQl; omega
  have s3 : ∀ {y3 y4 y5 y6 y7 y8}, evE gl cf (.slice (.var 1) (some (.bin .sub (.bi .len [(.var 1)]) (.var 2))) none) [.int way, .lst (S.map item), .int (m : Int), y3, y4, y5, y6, y7, y8] σ = .ok (.lst (Q.map item)) σ := by
    intros
    simp only [evE_cNone, evE_cBool, evE_cInt, evE_cStr, evE_var, evE_glob, evE_and, evE_or, evE_not, evE_neg, evE_bin, evE_cmp, evE_cmp2, evE_ite, evE_tup, evE_lst, evE_call, evE_bi, evE_join, evE_idx, evE_slice, evEs_nil, evEs_cons, evO_none, evO_some, getV, List.getElem?_cons_zero, List.getElem?_cons_succ, of_some, bind_ok, hlen, vBin_sub, asInt_i, e1]
  have s4 : ∀ {y3 y4 y5 y6 y7 y8}, evE gl cf (.slice (.var 1) none (some (.bin .sub (.bi .len [(.var 1)]) (.var 2)))) [.int way, .lst (S.map item), .int (m : Int), y3, y4, y5, y6, y7, y8] σ = .ok (.lst (K.map item)) σ := by
    intros
    simp only [evE_cNone, evE_cBool, evE_cInt, evE_cStr, evE_var, evE_glob, evE_and, evE_or, evE_not, evE_neg, evE_bin, evE_cmp, evE_cmp2, evE_ite, evE_tup, evE_lst, evE_call, evE_bi, evE_join, evE_idx, evE_slice, evEs_nil, evEs_cons, evO_none, evO_some, getV, List.getElem?_cons_zero, List.getElem?_cons_succ, of_some, bind_ok, hlen, vBin_sub, asInt_i, e2]
  have v3 : ∀ {y4 y5 y6 y7 y8}, evE gl cf (.var 3) [.int way, .lst (S.map item), .int (m : Int), .lst (Q.map item), y4, y5, y6, y7, y8] σ = .ok (.lst (Q.map item)) σ := by
    intros
    simp only [evE_cNone, evE_cBool, evE_cInt, evE_cStr, evE_var, evE_glob, evE_and, evE_or, evE_not, evE_neg, evE_bin, evE_cmp, evE_cmp2, evE_ite, evE_tup, evE_lst, evE_call, evE_bi, evE_join, evE_idx, evE_slice, evEs_nil, evEs_cons, evO_none, evO_some, getV, List.getElem?_cons_zero, List.getElem?_cons_succ, of_some]
  have s5 : ∀ {y4 y5 y6 y7 y8}, evE gl cf (.tup [(.cStr [114, 111, 119]), (.bi .tuple [(.comp false (.idx (.var 9) (.cInt 0)) .val (.var 3) .cNone none)])]) [.int way, .lst (S.map item), .int (m : Int), .lst (Q.map item), y4, y5, y6, y7, y8] σ = .ok (Tree.row Q).v σ := by
    intros
    simp only [evE_cNone, evE_cBool, evE_cInt, evE_cStr, evE_var, evE_glob, evE_and, evE_or, evE_not, evE_neg, evE_bin, evE_cmp, evE_cmp2, evE_ite, evE_tup, evE_lst, evE_call, evE_bi, evE_join, evE_idx, evE_slice, evEs_nil, evEs_cons, evO_none, evO_some, bind_ok, item_comp v3 item_0 hQ1, bi_tuple, of_some, tup2, v_row]
  have s6 : ∀ {y4 y5 y6 y7 y8}, evE gl cf (.bi .all [(.comp false (.idx (.var 9) (.cInt 1)) .val (.var 3) .cNone none)]) [.int way, .lst (S.map item), .int (m : Int), .lst (Q.map item), y4, y5, y6, y7, y8] σ = .ok (.bool (Q.all Tree.bare)) σ := by
    intros
    simp only [evE_cNone, evE_cBool, evE_cInt, evE_cStr, evE_var, evE_glob, evE_and, evE_or, evE_not, evE_neg, evE_bin, evE_cmp, evE_cmp2, evE_ite, evE_tup, evE_lst, evE_call, evE_bi, evE_join, evE_idx, evE_slice, evEs_nil, evEs_cons, evO_none, evO_some, bind_ok, item_comp v3 item_1 hQ1, bi_all, of_some]
  have s6' : ∀ {y4 y5 y6 y7 y8}, evE gl cf (.bi .any [(.comp false (.idx (.var 9) (.cInt 1)) .val (.var 3) .cNone none)]) [.int way, .lst (S.map item), .int (m : Int), .lst (Q.map item), y4, y5, y6, y7, y8] σ = .ok (.bool (Q.any Tree.bare)) σ := by
    intros
    simp only [evE_cNone, evE_cBool, evE_cInt, evE_cStr, evE_var, evE_glob, evE_and, evE_or, evE_not, evE_neg, evE_bin, evE_cmp, evE_cmp2, evE_ite, evE_tup, evE_lst, evE_call, evE_bi, evE_join, evE_idx, evE_slice, evEs_nil, evEs_cons, evO_none, evO_some, bind_ok, item_comp v3 item_1 hQ1, bi_any, of_some]
  have s7 : ∀ {y4 y5 y6 y7 y8}, evE gl cf (.bi .sum [(.comp false (.idx (.var 9) (.cInt 2)) .val (.var 3) .cNone none)]) [.int way, .lst (S.map item), .int (m : Int), .lst (Q.map item), y4, y5, y6, y7, y8] σ = .ok (.int (Q.map Tree.cnt).sum) σ := by
    intros
    simp only [evE_cNone, evE_cBool, evE_cInt, evE_cStr, evE_var, evE_glob, evE_and, evE_or, evE_not, evE_neg, evE_bin, evE_cmp, evE_cmp2, evE_ite, evE_tup, evE_lst, evE_call, evE_bi, evE_join, evE_idx, evE_slice, evEs_nil, evEs_cons, evO_none, evO_some, bind_ok, item_comp v3 item_2 hQ1, bi_sum, of_some]
  have s8 : ∀ {y4 y5 y6 y7 y8}, evE gl cf (.bin .add (.cInt 1) (.bi .max1 [(.comp false (.idx (.var 9) (.cInt 3)) .val (.var 3) .cNone none)])) [.int way, .lst (S.map item), .int (m : Int), .lst (Q.map item), y4, y5, y6, y7, y8] σ = .ok (.int ((1 + Tree.deps Q : Nat) : Int)) σ := by
    intros
    simp only [evE_cNone, evE_cBool, evE_cInt, evE_cStr, evE_var, evE_glob, evE_and, evE_or, evE_not, evE_neg, evE_bin, evE_cmp, evE_cmp2, evE_ite, evE_tup, evE_lst, evE_call, evE_bi, evE_join, evE_idx, evE_slice, evEs_nil, evEs_cons, evO_none, evO_some, bind_ok, item_comp v3 item_3 hQ1, max_dep hQ0, of_some, vBin_add]
    rfl
  have fin : ∀ (T : Tree) {y1 y2 y3}, T.dep = 1 + Tree.deps Q → exB gl cf (d_l_joined_by_v02.body.drop 6) [.int way, .lst (S.map item), .int (m : Int), .lst (Q.map item), .lst (K.map item), y1, y2, y3, .undef] σ = exB gl cf (d_l_joined_by_v02.body.drop 7) [.int way, .lst (S.map item), .int (m : Int), .lst (Q.map item), .lst (K.map item), y1, y2, y3, .int (T.dep : Int)] σ := fun T y1 y2 y3 hT => by
    rw [hT]; exact exB_asg s8
  have fin2 : ∀ (T : Tree), exB gl cf (d_l_joined_by_v02.body.drop 7) [.int way, .lst (S.map item), .int (m : Int), .lst (Q.map item), .lst (K.map item), T.v, .bool T.bare, .int T.cnt, .int (T.dep : Int)] σ =
      .ok (.ret (.lst ((K ++ [T]).map item)), [.int way, .lst (S.map item), .int (m : Int), .lst (Q.map item), .lst (K.map item), T.v, .bool T.bare, .int T.cnt, .int (T.dep : Int)]) σ := fun T => by
    refine exB_rets ?_
    have ha : vBin σ .add (.lst (K.map item)) (.lst [item T]) = some (.lst ((K ++ [T]).map item)) := by
      rw [vBin_addL (by rw [List.length_map]; simp only [List.length_cons, List.length_nil]; unfold roomy; omega), List.map_append]; rfl
    simp only [evE_cNone, evE_cBool, evE_cInt, evE_cStr, evE_var, evE_glob, evE_and, evE_or, evE_not, evE_neg, evE_bin, evE_cmp, evE_cmp2, evE_ite, evE_tup, evE_lst, evE_call, evE_bi, evE_join, evE_idx, evE_slice, evEs_nil, evEs_cons, evO_none, evO_some, getV_t (Γ := [.int way, .lst (S.map item), .int (m : Int), .lst (Q.map item), .lst (K.map item), T.v, .bool T.bare, .int T.cnt, .int (T.dep : Int)]) (i := 5) (t := T) rfl, of_some, bind_ok]
    simp only [getV, List.getElem?_cons_zero, List.getElem?_cons_succ, of_some, bind_ok, tup4, putL_1]
    rw [show V.tup [T.v, .bool T.bare, .int T.cnt, .int (T.dep : Int)] = item T from rfl, ha]; rfl
  refine ⟨[.int way, .lst (S.map item), .int (m : Int), .lst (Q.map item), .lst (K.map item), (joinT way Q).v, .bool (joinT way Q).bare, .int (joinT way Q).cnt, .int ((joinT way Q).dep : Int)], (exB_asg s3).trans ((exB_asg s4).trans ((exB_asg s5).trans ((exB_asg s6).trans ((exB_asg s7).trans ?_))))⟩
  by_cases hw : way = 5
  · refine (exB_into (v := .bool true) (σ' := σ) (Γ' := [.int way, .lst (S.map item), .int (m : Int), .lst (Q.map item), .lst (K.map item), (joinT way Q).v, .bool (joinT way Q).bare, .int (joinT way Q).cnt, .undef]) ?_ rfl ?_).trans ((fin (joinT way Q) ?_).trans (fin2 _))
    · simp only [List.set_cons_succ, List.set_cons_zero, evE_cNone, evE_cBool, evE_cInt, evE_cStr, evE_var, evE_glob, evE_and, evE_or, evE_not, evE_neg, evE_bin, evE_cmp, evE_cmp2, evE_ite, evE_tup, evE_lst, evE_call, evE_bi, evE_join, evE_idx, evE_slice, evEs_nil, evEs_cons, evO_none, evO_some, getV, List.getElem?_cons_zero, List.getElem?_cons_succ, of_some, bind_ok, eq_ii, hw]; rfl
    · rw [joinT, if_pos hw, bare_pick, cnt_pick, v_pick, hQl]
      refine (exB_asg (v := .tup [.str [112, 105, 99, 107], .tup (Q.map Tree.v)]) (σ' := σ) ?_).trans ((exB_asg (v := .bool (Q.any Tree.bare)) (σ' := σ) s6').trans ((exB_asg (v := .int ((Q.map Tree.cnt).sum + (m : Int) - 1)) (σ' := σ) ?_).trans exB_nil0))
      · rw [v_row]
        simp only [List.set_cons_succ, List.set_cons_zero, evE_cNone, evE_cBool, evE_cInt, evE_cStr, evE_var, evE_glob, evE_and, evE_or, evE_not, evE_neg, evE_bin, evE_cmp, evE_cmp2, evE_ite, evE_tup, evE_lst, evE_call, evE_bi, evE_join, evE_idx, evE_slice, evEs_nil, evEs_cons, evO_none, evO_some, getV, List.getElem?_cons_zero, List.getElem?_cons_succ, of_some, bind_ok, idx_t1, tup2]
      · simp only [List.set_cons_succ, List.set_cons_zero, evE_cNone, evE_cBool, evE_cInt, evE_cStr, evE_var, evE_glob, evE_and, evE_or, evE_not, evE_neg, evE_bin, evE_cmp, evE_cmp2, evE_ite, evE_tup, evE_lst, evE_call, evE_bi, evE_join, evE_idx, evE_slice, evEs_nil, evEs_cons, evO_none, evO_some, getV, List.getElem?_cons_zero, List.getElem?_cons_succ, of_some, bind_ok, vBin_add, vBin_sub]
    · rw [joinT, if_pos hw, dep_pick]
  · refine (exB_skip (v := .bool false) (σ' := σ) ?_ rfl).trans ?_
    · simp only [List.set_cons_succ, List.set_cons_zero, evE_cNone, evE_cBool, evE_cInt, evE_cStr, evE_var, evE_glob, evE_and, evE_or, evE_not, evE_neg, evE_bin, evE_cmp, evE_cmp2, evE_ite, evE_tup, evE_lst, evE_call, evE_bi, evE_join, evE_idx, evE_slice, evEs_nil, evEs_cons, evO_none, evO_some, getV, List.getElem?_cons_zero, List.getElem?_cons_succ, of_some, bind_ok, eq_ii, beq_eq_false_iff_ne.mpr hw]
    · rw [joinT, if_neg hw, bare_row, cnt_row]
      have h8 := fin (Tree.row Q) (y1 := (Tree.row Q).v) (y2 := .bool (Q.all Tree.bare)) (y3 := .int (Q.map Tree.cnt).sum) dep_row
      have h9 := fin2 (Tree.row Q)
      rw [bare_row, cnt_row] at h9
      exact h8.trans h9

theorem call_joined (h6 : P[6]? = some d_l_joined_by_v02) {d : Nat} (way : Int) (S : List Tree) (m : Nat) (h1 : 1 ≤ m) (h2 : m ≤ S.length) (hS : S.length ≤ 1000) :
    callF gl P (d + 1) 6 [.int way, .lst (S.map item), .int (m : Int)] σ = .ok (.lst ((S.take (S.length - m) ++ [joinT way (S.drop (S.length - m))]).map item)) σ := by
  obtain ⟨Γ, h⟩ := joined_body (gl := gl) (cf := callF gl P d) (σ := σ) way S m h1 h2 hS
  exact callF_ret (D := d_l_joined_by_v02) h6 rfl h
end
end Mine

namespace Mine
/-- _law_put_by with its one number left open -/
noncomputable def dPut (k : Int) : Def := ⟨3, 8,
  [.asg 3 (.bin .mod (.var 1) (.cInt 9)),
   .asg 4 (.bin .fdiv (.var 1) (.cInt 9)),
   .asg 5 (.cInt 0),
   .ite (.var 0)
     [.asg 5 (.idx (.idx (.var 0) (.neg (.cInt 1))) (.cInt 3))]
     [],
   .ite (.and (.cmp .eq (.var 3) (.cInt 6)) (.cmp2 .lt .lt (.cInt 0) (.var 5) (.cInt 12)))
     [.asg 6 (.idx (.var 0) (.neg (.cInt 1))),
      .ret (.bin .add (.slice (.var 0) none (some (.neg (.cInt 1)))) (.lst false [(.tup [(.tup [(.cStr [109, 97, 121, 98, 101]), (.idx (.var 6) (.cInt 0)), (.cmp .gt (.bin .mod (.var 4) (.cInt 3)) (.cInt 0))]), (.cBool true), (.bin .add (.idx (.var 6) (.cInt 2)) (.cInt 1)), (.bin .add (.var 5) (.cInt 1))])]))]
     [],
   .ite (.and (.cmp .eq (.var 3) (.cInt 7)) (.and (.cmp2 .lt .lt (.cInt 0) (.var 5) (.cInt 12)) (.not (.idx (.idx (.var 0) (.neg (.cInt 1))) (.cInt 1)))))
     [.asg 6 (.idx (.var 0) (.neg (.cInt 1))),
      .ret (.bin .add (.slice (.var 0) none (some (.neg (.cInt 1)))) (.lst false [(.tup [(.tup [(.cStr [109, 97, 110, 121]), (.idx (.var 6) (.cInt 0)), (.cmp .gt (.bin .mod (.var 4) (.cInt 3)) (.cInt 0))]), (.cBool true), (.bin .add (.idx (.var 6) (.cInt 2)) (.cInt 1)), (.bin .add (.var 5) (.cInt 1))])]))]
     [],
   .ite (.and (.or (.cmp .eq (.var 3) (.cInt 4)) (.cmp .eq (.var 3) (.cInt 5))) (.cmp .gt (.bi .len [(.var 0)]) (.cInt 1)))
     [.asg 7 (.bin .add (.cInt 2) (.bin .mod (.var 4) (.bi .min2 [(.cInt k), (.bin .sub (.bi .len [(.var 0)]) (.cInt 1))]))),
      .ite (.cmp .lt (.bi .max1 [(.comp false (.idx (.var 8) (.cInt 3)) .val (.slice (.var 0) (some (.bin .sub (.bi .len [(.var 0)]) (.var 7))) none) .cNone none)]) (.cInt 12))
        [.ret (.call 6 [(.var 3), (.var 0), (.var 7)])]
        []]
     [],
   .ite (.and (.cmp .eq (.var 3) (.cInt 8)) (.cmp .eq (.bin .mod (.var 4) (.cInt 3)) (.cInt 0)))
     [.ret (.bin .add (.var 0) (.lst false [(.tup [(.tup [(.cStr [114, 111, 119]), (.tup [])]), (.cBool true), (.cInt 0), (.cInt 1)])]))]
     [],
   .ret (.bin .add (.var 0) (.lst false [(.tup [(.call 5 [(.var 4), (.var 2)]), (.cBool false), (.cInt 1), (.cInt 1)])]))]⟩

noncomputable def wgt (S : List Tree) : Int := (S.map Tree.cnt).sum + S.length
noncomputable def Fine (S : List Tree) : Prop := ∀ t ∈ S, t.Ok ∧ t.dep ≤ 12

theorem sum_app (a b : List Int) : (a ++ b).sum = a.sum + b.sum := by
  induction a with
  | nil => simp
  | cons x r ih => rw [List.cons_append, List.sum_cons, List.sum_cons, ih]; omega

/-- what a put makes of the stack -/
structure PutOk (S S' : List Tree) : Prop where
  ne : S' ≠ []
  fine : Fine S'
  len : S'.length ≤ S.length + 1
  wgt : Mine.wgt S' ≤ Mine.wgt S + 2
  nod : Tree.nods S' ≤ Tree.nods S + 1

section
variable {gl : List V} {cf : CF} {σ : Sg} {Γ : Fm} {P : List Def}

theorem cmp2_lt {a b c : Ex} {x y z : Int} (h1 : evE gl cf a Γ σ = .ok (.int x) σ) (h2 : evE gl cf b Γ σ = .ok (.int y) σ) (h3 : evE gl cf c Γ σ = .ok (.int z) σ) : evE gl cf (.cmp2 .lt .lt a b c) Γ σ = .ok (.bool (decide (x < y) && decide (y < z))) σ := by
  rw [evE_cmp2, h1, bind_ok, h2, bind_ok, lt_ii, of_some, bind_ok]
  by_cases h : x < y
  · rw [decide_eq_true h, if_pos rfl, h3, bind_ok, lt_ii, of_some, bind_ok, Bool.true_and]
  · rw [decide_eq_false h, if_neg Bool.false_ne_true, Bool.false_and]
theorem eq_ic {i : Nat} {x k : Int} (h : Γ[i]? = some (.int x)) : evE gl cf (.cmp .eq (.var i) (.cInt k)) Γ σ = .ok (.bool (x == k)) σ := by
  simp only [evE_cNone, evE_cBool, evE_cInt, evE_cStr, evE_var, evE_glob, evE_and, evE_or, evE_not, evE_neg, evE_bin, evE_cmp, evE_cmp2, evE_ite, evE_tup, evE_lst, evE_call, evE_bi, evE_join, evE_idx, evE_slice, evEs_nil, evEs_cons, evO_none, evO_some, getV_int h, of_some, bind_ok, eq_ii]

theorem PutOk.snoc {S : List Tree} {t : Tree} (hS : Fine S) (h1 : t.Ok) (h2 : t.dep ≤ 12) (h3 : t.cnt ≤ 1) (h4 : t.nod ≤ 1) : PutOk S (S ++ [t]) := by
  refine ⟨by simp, fun u hu => ?_, by simp, ?_, by rw [nods_app, nods_one]; omega⟩
  · rcases List.mem_append.mp hu with q | q
    · exact hS u q
    · rw [List.mem_singleton.mp q]; exact ⟨h1, h2⟩
  · unfold Mine.wgt
    rw [List.map_append, sum_app, List.length_append]
    simp only [List.map_cons, List.map_nil, List.sum_cons, List.sum_nil, List.length_cons, List.length_nil]
    omega
theorem PutOk.last {K : List Tree} {t u : Tree} (hS : Fine (K ++ [t])) (h1 : u.Ok) (h2 : u.dep ≤ 12) (h3 : u.cnt ≤ t.cnt + 1) (h4 : u.nod ≤ t.nod + 1) : PutOk (K ++ [t]) (K ++ [u]) := by
  refine ⟨by simp, fun x hx => ?_, by simp, ?_, by rw [nods_app, nods_app, nods_one, nods_one]; omega⟩
  · rcases List.mem_append.mp hx with q | q
    · exact hS x (List.mem_append_left _ q)
    · rw [List.mem_singleton.mp q]; exact ⟨h1, h2⟩
  · unfold Mine.wgt
    rw [List.map_append, List.map_append, sum_app, sum_app, List.length_append, List.length_append]
    simp only [List.map_cons, List.map_nil, List.sum_cons, List.sum_nil, List.length_cons, List.length_nil]
    omega
theorem joinT_cnt {way : Int} {Q : List Tree} (h : Q ≠ []) : (joinT way Q).cnt ≤ (Q.map Tree.cnt).sum + Q.length - 1 := by
  have : Q.length ≠ 0 := fun e => h (List.length_eq_zero_iff.mp e)
  unfold joinT
  split
  · rw [cnt_pick]; omega
  · rw [cnt_row]; omega
theorem joinT_nod {way : Int} {Q : List Tree} : (joinT way Q).nod = 1 + Tree.nods Q := by
  unfold joinT
  split
  · exact nod_pick
  · exact nod_row
theorem joinT_ok {way : Int} {Q : List Tree} (h : 2 ≤ Q.length) (hl : Q.length ≤ 1000) (hQ : ∀ t ∈ Q, t.Ok) : (joinT way Q).Ok := by
  unfold joinT
  split
  · exact ok_pick.mpr ⟨⟨h, hl⟩, hQ⟩
  · exact ok_row.mpr ⟨⟨by omega, hl⟩, hQ⟩
theorem joinT_dep {way : Int} {Q : List Tree} : (joinT way Q).dep = 1 + Tree.deps Q := by
  unfold joinT
  split
  · exact dep_pick
  · exact dep_row
theorem PutOk.join {S : List Tree} {n : Nat} {way : Int} (hS : Fine S) (hSl : S.length ≤ 1000) (hm2 : 2 ≤ (S.drop n).length) (h2 : Tree.deps (S.drop n) < 12) : PutOk S (S.take n ++ [joinT way (S.drop n)]) := by
  have h0 : S.drop n ≠ [] := by intro e; rw [e] at hm2; simp at hm2
  have hc := joinT_cnt (way := way) h0
  have hl : (S.drop n).length ≠ 0 := fun e => h0 (List.length_eq_zero_iff.mp e)
  have e : Mine.wgt S = Mine.wgt (S.take n) + Mine.wgt (S.drop n) := by
    unfold Mine.wgt
    have h := List.take_append_drop n S
    have h1 : (S.map Tree.cnt).sum = ((S.take n).map Tree.cnt).sum + ((S.drop n).map Tree.cnt).sum := by rw [← sum_app, ← List.map_append, h]
    have h2 : S.length = (S.take n).length + (S.drop n).length := by rw [← List.length_append, h]
    omega
  refine ⟨by simp, fun x hx => ?_, ?_, ?_, ?_⟩
  · rcases List.mem_append.mp hx with q | q
    · exact hS x (List.mem_of_mem_take q)
    · rw [List.mem_singleton.mp q]
      exact ⟨joinT_ok hm2 (by rw [List.length_drop]; omega) fun t ht => (hS t (List.mem_of_mem_drop ht)).1, by rw [joinT_dep]; omega⟩
  · rw [List.length_append, List.length_take]; simp only [List.length_cons, List.length_nil]; omega
  · rw [e]
    unfold Mine.wgt at *
    rw [List.map_append, sum_app, List.length_append]
    simp only [List.map_cons, List.map_nil, List.sum_cons, List.sum_nil, List.length_cons, List.length_nil]
    omega
  · have e2 : Tree.nods S = Tree.nods (S.take n) + Tree.nods (S.drop n) := by rw [← nods_app, List.take_append_drop]
    rw [nods_app, nods_one, joinT_nod, e2]; omega

noncomputable def high (S : List Tree) : Int := match S.getLast? with | some t => (t.dep : Int) | none => 0

theorem put_add {S : List Tree} {t : Tree} (hl : S.length ≤ 1000) : vBin σ .add (.lst (S.map item)) (.lst [item t]) = some (.lst ((S ++ [t]).map item)) := by
  rw [vBin_addL (by rw [List.length_map]; simp only [List.length_cons, List.length_nil]; unfold roomy; omega), List.map_append]; rfl

theorem put_body {k : Int} (hk : 1 ≤ k) {S : List Tree} {c : Int} {l : List Nat} (hS : Fine S) (hl : S.length ≤ 900)
    (h6 : ∀ (way : Int) (m : Nat), 1 ≤ m → m ≤ S.length → cf 6 [.int way, .lst (S.map item), .int (m : Int)] σ = .ok (.lst ((S.take (S.length - m) ++ [joinT way (S.drop (S.length - m))]).map item)) σ)
    (h5 : ∃ b s, cf 5 [.int (c.fdiv 9), .str l] σ = .ok (Tree.take b s).v σ ∧ (Tree.take b s).Ok) :
    ∃ S' Γ, exB gl cf (dPut k).body [.lst (S.map item), .int c, .str l, .undef, .undef, .undef, .undef, .undef] σ = .ok (.ret (.lst (S'.map item)), Γ) σ ∧ PutOk S S' := by
  have hlen : vBi σ .len [.lst (S.map item)] = some (.int (S.length : Int)) := by rw [bi_len_l, List.length_map]
  -- the head: way, rest, high
  have hd : exB gl cf (dPut k).body [.lst (S.map item), .int c, .str l, .undef, .undef, .undef, .undef, .undef] σ = exB gl cf ((dPut k).body.drop 4) [.lst (S.map item), .int c, .str l, .int (c.fmod 9), .int (c.fdiv 9), .int (high S), .undef, .undef] σ := by
    refine (exB_asg (v := .int (c.fmod 9)) (σ' := σ) ?_).trans ((exB_asg (v := .int (c.fdiv 9)) (σ' := σ) ?_).trans ((exB_asg (v := .int 0) (σ' := σ) evE_cInt).trans ?_))
    · simp only [evE_cNone, evE_cBool, evE_cInt, evE_cStr, evE_var, evE_glob, evE_and, evE_or, evE_not, evE_neg, evE_bin, evE_cmp, evE_cmp2, evE_ite, evE_tup, evE_lst, evE_call, evE_bi, evE_join, evE_idx, evE_slice, evEs_nil, evEs_cons, evO_none, evO_some, getV, List.getElem?_cons_zero, List.getElem?_cons_succ, of_some, bind_ok, vBin_mod (a := c) (b := 9) (σ := σ) (by decide)]
    · simp only [List.set_cons_succ, List.set_cons_zero, evE_cNone, evE_cBool, evE_cInt, evE_cStr, evE_var, evE_glob, evE_and, evE_or, evE_not, evE_neg, evE_bin, evE_cmp, evE_cmp2, evE_ite, evE_tup, evE_lst, evE_call, evE_bi, evE_join, evE_idx, evE_slice, evEs_nil, evEs_cons, evO_none, evO_some, getV, List.getElem?_cons_zero, List.getElem?_cons_succ, of_some, bind_ok, vBin_fdiv (a := c) (b := 9) (σ := σ) rfl (by decide)]
    · rcases List.eq_nil_or_concat S with rfl | ⟨K, t, rfl⟩
      · exact exB_skip (v := .lst []) (σ' := σ) rfl rfl
      · rw [List.concat_eq_append]
        have hlast : vIdx σ (.lst ((K ++ [t]).map item)) (.int (-1)) = some (item t) := vIdx_last rfl rfl (by rw [List.map_append]; simp)
        refine exB_into (v := .lst ((K ++ [t]).map item)) (σ' := σ) rfl (by rw [true_l, List.map_append]; simp) ((exB_asg (v := .int (t.dep : Int)) (σ' := σ) ?_).trans (exB_nil0.trans ?_))
        · simp only [List.set_cons_succ, List.set_cons_zero, evE_cNone, evE_cBool, evE_cInt, evE_cStr, evE_var, evE_glob, evE_and, evE_or, evE_not, evE_neg, evE_bin, evE_cmp, evE_cmp2, evE_ite, evE_tup, evE_lst, evE_call, evE_bi, evE_join, evE_idx, evE_slice, evEs_nil, evEs_cons, evO_none, evO_some, getV, List.getElem?_cons_zero, List.getElem?_cons_succ, of_some, bind_ok, neg_i, hlast, item_3]
        · simp [high]
  rw [hd]
  generalize hH : high S = H
  obtain ⟨w1, w2⟩ := fmod_range c (b := 9) (by decide)
  generalize hW : c.fmod 9 = W at w1 w2 ⊢
  generalize hR : c.fdiv 9 = R at h5 ⊢
  -- the last two statements
  have tail : ∀ {y6 y7 : V}, ∃ S' Γ, exB gl cf ((dPut k).body.drop 7) [.lst (S.map item), .int c, .str l, .int W, .int R, .int H, y6, y7] σ = .ok (.ret (.lst (S'.map item)), Γ) σ ∧ PutOk S S' := by
    intro y6 y7
    have t8 : evE gl cf (.and (.cmp .eq (.var 3) (.cInt 8)) (.cmp .eq (.bin .mod (.var 4) (.cInt 3)) (.cInt 0))) [.lst (S.map item), .int c, .str l, .int W, .int R, .int H, y6, y7] σ = .ok (.bool (W == 8 && R.fmod 3 == 0)) σ := by
      refine and_bb (eq_ic rfl) fun _ => ?_
      simp only [evE_cNone, evE_cBool, evE_cInt, evE_cStr, evE_var, evE_glob, evE_and, evE_or, evE_not, evE_neg, evE_bin, evE_cmp, evE_cmp2, evE_ite, evE_tup, evE_lst, evE_call, evE_bi, evE_join, evE_idx, evE_slice, evEs_nil, evEs_cons, evO_none, evO_some, getV, List.getElem?_cons_zero, List.getElem?_cons_succ, of_some, bind_ok, vBin_mod (a := R) (b := 3) (σ := σ) (by decide), eq_ii]
    cases hb : (W == 8 && R.fmod 3 == 0) with
    | true =>
      rw [hb] at t8
      refine ⟨S ++ [.row []], _, exB_take t8 rfl (exB_rets (σ' := σ) ?_), PutOk.snoc hS (ok_row.mpr ⟨⟨by simp, by simp⟩, by simp⟩) (by rw [dep_row, Tree.deps]; omega) (by rw [cnt_row]; simp) (by rw [nod_row, Tree.nods]; omega)⟩
      simp only [evE_cNone, evE_cBool, evE_cInt, evE_cStr, evE_var, evE_glob, evE_and, evE_or, evE_not, evE_neg, evE_bin, evE_cmp, evE_cmp2, evE_ite, evE_tup, evE_lst, evE_call, evE_bi, evE_join, evE_idx, evE_slice, evEs_nil, evEs_cons, evO_none, evO_some, getV, List.getElem?_cons_zero, List.getElem?_cons_succ, of_some, bind_ok, tup0, tup2, tup4, putL_1]
      rw [show V.tup [V.tup [V.str [114, 111, 119], V.tup []], V.bool true, V.int 0, V.int 1] = item (.row []) from rfl, put_add (by omega)]; rfl
    | false =>
      rw [hb] at t8
      obtain ⟨b, s, h5, h5'⟩ := h5
      refine ⟨S ++ [.take b s], _, (exB_skip t8 rfl).trans (exB_rets (σ' := σ) ?_), PutOk.snoc hS h5' (by rw [dep_take]; omega) (by rw [Tree.cnt]; omega) (by rw [nod_take]; omega)⟩
      simp only [evE_cNone, evE_cBool, evE_cInt, evE_cStr, evE_var, evE_glob, evE_and, evE_or, evE_not, evE_neg, evE_bin, evE_cmp, evE_cmp2, evE_ite, evE_tup, evE_lst, evE_call, evE_bi, evE_join, evE_idx, evE_slice, evEs_nil, evEs_cons, evO_none, evO_some, getV, List.getElem?_cons_zero, List.getElem?_cons_succ, of_some, bind_ok, h5, tup4, putL_1]
      rw [show V.tup [(Tree.take b s).v, V.bool false, V.int 1, V.int 1] = item (.take b s) from rfl, put_add (by omega)]; rfl
  -- the join
  have mid : ∀ {y6 : V}, ∃ S' Γ, exB gl cf ((dPut k).body.drop 6) [.lst (S.map item), .int c, .str l, .int W, .int R, .int H, y6, .undef] σ = .ok (.ret (.lst (S'.map item)), Γ) σ ∧ PutOk S S' := by
    intro y6
    have t45 : evE gl cf (.and (.or (.cmp .eq (.var 3) (.cInt 4)) (.cmp .eq (.var 3) (.cInt 5))) (.cmp .gt (.bi .len [(.var 0)]) (.cInt 1))) [.lst (S.map item), .int c, .str l, .int W, .int R, .int H, y6, .undef] σ = .ok (.bool ((W == 4 || W == 5) && decide ((S.length : Int) > 1))) σ := by
      refine and_bb (or_bb (eq_ic rfl) fun _ => eq_ic rfl) fun _ => ?_
      simp only [evE_cNone, evE_cBool, evE_cInt, evE_cStr, evE_var, evE_glob, evE_and, evE_or, evE_not, evE_neg, evE_bin, evE_cmp, evE_cmp2, evE_ite, evE_tup, evE_lst, evE_call, evE_bi, evE_join, evE_idx, evE_slice, evEs_nil, evEs_cons, evO_none, evO_some, getV, List.getElem?_cons_zero, List.getElem?_cons_succ, of_some, bind_ok, hlen, gt_ii]
    cases hb : ((W == 4 || W == 5) && decide ((S.length : Int) > 1)) with
    | false =>
      rw [hb] at t45
      obtain ⟨S', Γ, h, ok⟩ := tail (y6 := y6) (y7 := .undef)
      exact ⟨S', Γ, (exB_skip t45 rfl).trans h, ok⟩
    | true =>
      rw [hb] at t45
      have hgt : (S.length : Int) > 1 := of_decide_eq_true (Bool.and_eq_true_iff.mp hb).2
      have hmin : 0 < min k ((S.length : Int) - 1) := by omega
      obtain ⟨q1, q2⟩ := fmod_range R hmin
      obtain ⟨m, hm⟩ : ∃ m : Nat, 2 + R.fmod (min k ((S.length : Int) - 1)) = (m : Int) := ⟨(2 + R.fmod (min k ((S.length : Int) - 1))).toNat, by omega⟩
      have hm1 : 1 ≤ m := by omega
      have hm2 : m ≤ S.length := by omega
      obtain ⟨e1, _⟩ := stack_cuts (σ := σ) hm2 (by omega)
      have hQl := drop_parts hm2
      have hQ0 : S.drop (S.length - m) ≠ [] := by intro e; rw [e] at hQl; simp at hQl; omega
      have sm : evE gl cf (.bin .add (.cInt 2) (.bin .mod (.var 4) (.bi .min2 [(.cInt k), (.bin .sub (.bi .len [(.var 0)]) (.cInt 1))]))) [.lst (S.map item), .int c, .str l, .int W, .int R, .int H, y6, .undef] σ = .ok (.int (m : Int)) σ := by
        simp only [evE_cNone, evE_cBool, evE_cInt, evE_cStr, evE_var, evE_glob, evE_and, evE_or, evE_not, evE_neg, evE_bin, evE_cmp, evE_cmp2, evE_ite, evE_tup, evE_lst, evE_call, evE_bi, evE_join, evE_idx, evE_slice, evEs_nil, evEs_cons, evO_none, evO_some, getV, List.getElem?_cons_zero, List.getElem?_cons_succ, of_some, bind_ok, hlen, vBin_sub, bi_min2, vBin_mod (a := R) (σ := σ) (Int.ne_of_gt hmin), vBin_add, hm]
      have sx : evE gl cf (.cmp .lt (.bi .max1 [(.comp false (.idx (.var 8) (.cInt 3)) .val (.slice (.var 0) (some (.bin .sub (.bi .len [(.var 0)]) (.var 7))) none) .cNone none)]) (.cInt 12)) [.lst (S.map item), .int c, .str l, .int W, .int R, .int H, y6, .int (m : Int)] σ = .ok (.bool (decide ((Tree.deps (S.drop (S.length - m)) : Int) < 12))) σ := by
        have hc : evE gl cf (.comp false (.idx (.var 8) (.cInt 3)) .val (.slice (.var 0) (some (.bin .sub (.bi .len [(.var 0)]) (.var 7))) none) .cNone none) [.lst (S.map item), .int c, .str l, .int W, .int R, .int H, y6, .int (m : Int)] σ = .ok (.lst ((S.drop (S.length - m)).map fun t => V.int (t.dep : Int))) σ := by
          refine evE_compM (x := .lst ((S.drop (S.length - m)).map item)) (y := .none) (σ₁ := σ) ?_ evE_cNone rfl (fun z _ => ?_) (by rw [hQl]; unfold roomy; omega)
          · simp only [evE_cNone, evE_cBool, evE_cInt, evE_cStr, evE_var, evE_glob, evE_and, evE_or, evE_not, evE_neg, evE_bin, evE_cmp, evE_cmp2, evE_ite, evE_tup, evE_lst, evE_call, evE_bi, evE_join, evE_idx, evE_slice, evEs_nil, evEs_cons, evO_none, evO_some, getV, List.getElem?_cons_zero, List.getElem?_cons_succ, of_some, bind_ok, hlen, vBin_sub, asInt_i, e1]
          · have hv : getV ([.lst (S.map item), .int c, .str l, .int W, .int R, .int H, y6, .int (m : Int)] ++ [item z]) 8 = some (item z) := rfl
            simp only [evE_cNone, evE_cBool, evE_cInt, evE_cStr, evE_var, evE_glob, evE_and, evE_or, evE_not, evE_neg, evE_bin, evE_cmp, evE_cmp2, evE_ite, evE_tup, evE_lst, evE_call, evE_bi, evE_join, evE_idx, evE_slice, evEs_nil, evEs_cons, evO_none, evO_some, hv, of_some, bind_ok, item_3]
        rw [evE_cmp, evE_bi, evEs_cons, hc]
        simp only [evE_cNone, evE_cBool, evE_cInt, evE_cStr, evE_var, evE_glob, evE_and, evE_or, evE_not, evE_neg, evE_bin, evE_cmp, evE_cmp2, evE_ite, evE_tup, evE_lst, evE_call, evE_bi, evE_join, evE_idx, evE_slice, evEs_nil, evEs_cons, evO_none, evO_some, bind_ok, max_dep hQ0, of_some, lt_ii]
      by_cases hx : (Tree.deps (S.drop (S.length - m)) : Int) < 12
      · rw [decide_eq_true hx] at sx
        refine ⟨S.take (S.length - m) ++ [joinT W (S.drop (S.length - m))], _, exB_take t45 rfl ((exB_asg sm).trans (exB_take sx rfl (exB_rets (σ' := σ) ?_))), PutOk.join hS (by omega) (by rw [hQl]; omega) (by omega)⟩
        simp only [List.set_cons_succ, List.set_cons_zero, evE_cNone, evE_cBool, evE_cInt, evE_cStr, evE_var, evE_glob, evE_and, evE_or, evE_not, evE_neg, evE_bin, evE_cmp, evE_cmp2, evE_ite, evE_tup, evE_lst, evE_call, evE_bi, evE_join, evE_idx, evE_slice, evEs_nil, evEs_cons, evO_none, evO_some, getV, List.getElem?_cons_zero, List.getElem?_cons_succ, of_some, bind_ok, h6 W m hm1 hm2]
      · rw [decide_eq_false hx] at sx
        obtain ⟨S', Γ, h, ok⟩ := tail (y6 := y6) (y7 := .int (m : Int))
        exact ⟨S', Γ, (exB_into (Γ' := [.lst (S.map item), .int c, .str l, .int W, .int R, .int H, y6, .int (m : Int)]) t45 rfl ((exB_asg sm).trans ((exB_skip sx rfl).trans exB_nil0))).trans h, ok⟩
  have hi : evE gl cf (.cmp2 .lt .lt (.cInt 0) (.var 5) (.cInt 12)) [.lst (S.map item), .int c, .str l, .int W, .int R, .int H, .undef, .undef] σ = .ok (.bool (decide (0 < H) && decide (H < 12))) σ :=
    cmp2_lt evE_cInt rfl evE_cInt
  have t6 := and_bb (gl := gl) (cf := cf) (eq_ic (gl := gl) (cf := cf) (σ := σ) (Γ := [.lst (S.map item), .int c, .str l, .int W, .int R, .int H, .undef, .undef]) (i := 3) (k := 6) rfl) fun _ => hi
  -- S is not empty where high is not 0
  have hne : 0 < H → ∃ K t, S = K ++ [t] ∧ H = (t.dep : Int) := fun h => by
    rcases List.eq_nil_or_concat S with rfl | ⟨K, t, rfl⟩
    · rw [← hH] at h; exact absurd h (by simp [high])
    · refine ⟨K, t, List.concat_eq_append .., ?_⟩
      rw [← hH]; simp [high]
  cases hb6 : (W == 6 && (decide (0 < H) && decide (H < 12))) with
  | true =>
    rw [hb6] at t6
    obtain ⟨b1, b2⟩ := Bool.and_eq_true_iff.mp (Bool.and_eq_true_iff.mp hb6).2
    obtain ⟨K, t, rfl, hHt⟩ := hne (of_decide_eq_true b1)
    have hlast : vIdx σ (.lst ((K ++ [t]).map item)) (.int (-1)) = some (item t) := vIdx_last rfl rfl (by rw [List.map_append]; simp)
    have hcut : vCut σ (.lst ((K ++ [t]).map item)) none (some (-1)) = some (.lst (K.map item)) := by
      rw [vCut_l rfl rfl, cut_m1 rfl, List.map_append]; simp
    have hlt := of_decide_eq_true b2
    have hft := hS t (by simp)
    refine ⟨K ++ [.maybe t (decide (R.fmod 3 > 0))], _, exB_take t6 rfl ((exB_asg (v := item t) (σ' := σ) ?_).trans (exB_rets (σ' := σ) ?_)), PutOk.last hS (by rw [Tree.Ok]; exact hft.1) (by rw [dep_maybe]; omega) (by rw [Tree.cnt]; omega) (by rw [nod_maybe]; omega)⟩
    · simp only [evE_cNone, evE_cBool, evE_cInt, evE_cStr, evE_var, evE_glob, evE_and, evE_or, evE_not, evE_neg, evE_bin, evE_cmp, evE_cmp2, evE_ite, evE_tup, evE_lst, evE_call, evE_bi, evE_join, evE_idx, evE_slice, evEs_nil, evEs_cons, evO_none, evO_some, getV, List.getElem?_cons_zero, List.getElem?_cons_succ, of_some, bind_ok, neg_i, hlast]
    · have hi6 : getV [V.lst ((K ++ [t]).map item), .int c, .str l, .int W, .int R, .int H, item t, .undef] 6 = some (item t) := rfl
      simp only [List.set_cons_succ, List.set_cons_zero, evE_cNone, evE_cBool, evE_cInt, evE_cStr, evE_var, evE_glob, evE_and, evE_or, evE_not, evE_neg, evE_bin, evE_cmp, evE_cmp2, evE_ite, evE_tup, evE_lst, evE_call, evE_bi, evE_join, evE_idx, evE_slice, evEs_nil, evEs_cons, evO_none, evO_some, hi6, of_some, bind_ok, item_0, item_2]
      simp only [getV, List.getElem?_cons_zero, List.getElem?_cons_succ, of_some, bind_ok, neg_i, asInt_i, hcut, vBin_mod (a := R) (b := 3) (σ := σ) (by decide), gt_ii, vBin_add, tup3, tup4, putL_1]
      rw [show V.tup [V.tup [V.str [109, 97, 121, 98, 101], t.v, V.bool (decide (R.fmod 3 > 0))], V.bool true, V.int (t.cnt + 1), V.int (H + 1)] = item (.maybe t (decide (R.fmod 3 > 0))) by rw [hHt]; rfl,
        put_add (by rw [List.length_append] at hl; omega)]; rfl
  | false =>
  rw [hb6] at t6
  have t7 : ∃ bb : Bool, evE gl cf (.and (.cmp .eq (.var 3) (.cInt 7)) (.and (.cmp2 .lt .lt (.cInt 0) (.var 5) (.cInt 12)) (.not (.idx (.idx (.var 0) (.neg (.cInt 1))) (.cInt 1))))) [.lst (S.map item), .int c, .str l, .int W, .int R, .int H, .undef, .undef] σ = .ok (.bool bb) σ ∧
      (bb = true → 0 < H ∧ H < 12 ∧ ∀ K t, S = K ++ [t] → t.bare = false) := by
    by_cases h0 : 0 < H
    · obtain ⟨K, t, hKt, hHt⟩ := hne h0
      have hlast : vIdx σ (.lst (S.map item)) (.int (-1)) = some (item t) := vIdx_last rfl rfl (by rw [hKt, List.map_append]; simp)
      have hnot : evE gl cf (.not (.idx (.idx (.var 0) (.neg (.cInt 1))) (.cInt 1))) [.lst (S.map item), .int c, .str l, .int W, .int R, .int H, .undef, .undef] σ = .ok (.bool (!t.bare)) σ := by
        refine not_bb ?_
        simp only [evE_cNone, evE_cBool, evE_cInt, evE_cStr, evE_var, evE_glob, evE_and, evE_or, evE_not, evE_neg, evE_bin, evE_cmp, evE_cmp2, evE_ite, evE_tup, evE_lst, evE_call, evE_bi, evE_join, evE_idx, evE_slice, evEs_nil, evEs_cons, evO_none, evO_some, getV, List.getElem?_cons_zero, List.getElem?_cons_succ, of_some, bind_ok, neg_i, hlast, item_1]
      refine ⟨_, and_bb (eq_ic rfl) fun _ => and_bb hi fun _ => hnot, fun hb => ?_⟩
      have hb := Bool.and_eq_true_iff.mp (Bool.and_eq_true_iff.mp hb).2
      refine ⟨h0, of_decide_eq_true (Bool.and_eq_true_iff.mp hb.1).2, fun K' t' e => ?_⟩
      rw [hKt] at e
      have := List.append_inj_right' e rfl
      rw [← List.head_eq_of_cons_eq this]
      exact Bool.not_eq_true' _ ▸ hb.2
    · refine ⟨_, and_bb (eq_ic rfl) fun _ => and_bb (q := false) hi fun hq => ?_, fun hb => ?_⟩
      · rw [decide_eq_false h0] at hq; cases hq
      · rw [decide_eq_false h0] at hb; simp at hb
  obtain ⟨bb, t7, hbb⟩ := t7
  cases bb with
  | false =>
    obtain ⟨S', Γ, h, ok⟩ := mid (y6 := .undef)
    exact ⟨S', Γ, (exB_skip t6 rfl).trans ((exB_skip t7 rfl).trans h), ok⟩
  | true =>
    obtain ⟨b1, b2, b3⟩ := hbb rfl
    obtain ⟨K, t, rfl, hHt⟩ := hne b1
    have hbare := b3 K t rfl
    have hlast : vIdx σ (.lst ((K ++ [t]).map item)) (.int (-1)) = some (item t) := vIdx_last rfl rfl (by rw [List.map_append]; simp)
    have hcut : vCut σ (.lst ((K ++ [t]).map item)) none (some (-1)) = some (.lst (K.map item)) := by
      rw [vCut_l rfl rfl, cut_m1 rfl, List.map_append]; simp
    have hft := hS t (by simp)
    refine ⟨K ++ [.many t (decide (R.fmod 3 > 0))], _, (exB_skip t6 rfl).trans (exB_take t7 rfl ((exB_asg (v := item t) (σ' := σ) ?_).trans (exB_rets (σ' := σ) ?_))), PutOk.last hS (by rw [Tree.Ok]; exact ⟨hft.1, hbare⟩) (by rw [dep_many]; omega) (by rw [Tree.cnt]; omega) (by rw [nod_many]; omega)⟩
    · simp only [evE_cNone, evE_cBool, evE_cInt, evE_cStr, evE_var, evE_glob, evE_and, evE_or, evE_not, evE_neg, evE_bin, evE_cmp, evE_cmp2, evE_ite, evE_tup, evE_lst, evE_call, evE_bi, evE_join, evE_idx, evE_slice, evEs_nil, evEs_cons, evO_none, evO_some, getV, List.getElem?_cons_zero, List.getElem?_cons_succ, of_some, bind_ok, neg_i, hlast]
    · have hi6 : getV [V.lst ((K ++ [t]).map item), .int c, .str l, .int W, .int R, .int H, item t, .undef] 6 = some (item t) := rfl
      simp only [List.set_cons_succ, List.set_cons_zero, evE_cNone, evE_cBool, evE_cInt, evE_cStr, evE_var, evE_glob, evE_and, evE_or, evE_not, evE_neg, evE_bin, evE_cmp, evE_cmp2, evE_ite, evE_tup, evE_lst, evE_call, evE_bi, evE_join, evE_idx, evE_slice, evEs_nil, evEs_cons, evO_none, evO_some, hi6, of_some, bind_ok, item_0, item_2]
      simp only [getV, List.getElem?_cons_zero, List.getElem?_cons_succ, of_some, bind_ok, neg_i, asInt_i, hcut, vBin_mod (a := R) (b := 3) (σ := σ) (by decide), gt_ii, vBin_add, tup3, tup4, putL_1]
      rw [show V.tup [V.tup [V.str [109, 97, 110, 121], t.v, V.bool (decide (R.fmod 3 > 0))], V.bool true, V.int (t.cnt + 1), V.int (H + 1)] = item (.many t (decide (R.fmod 3 > 0))) by rw [hHt]; rfl,
        put_add (by rw [List.length_append] at hl; omega)]; rfl
end
end Mine

namespace Mine

structure HT (P : List Def) (k : Int) : Prop where
  s : HS P
  kp : 1 ≤ k
  tk : P[5]? = some d_l_take_by_v02
  jn : P[6]? = some d_l_joined_by_v02
  pt : P[7]? = some (dPut k)
  tr : P[8]? = some d_l_tree_by

section
variable {gl : List V} {cf : CF} {σ : Sg} {Γ : Fm} {P : List Def} {k : Int} {d : Nat}

theorem call_put (H : HT P k) {S : List Tree} {c : Int} {l : List Nat} (h3 : Three l) (hS : Fine S) (hl : S.length ≤ 900) :
    ∃ S', callF gl P (d + 3) 7 [.lst (S.map item), .int c, .str l] σ = .ok (.lst (S'.map item)) σ ∧ PutOk S S' := by
  obtain ⟨S', Γ, h, ok⟩ := put_body (gl := gl) (cf := callF gl P (d + 2)) (σ := σ) H.kp hS hl (fun way m h1 h2 => call_joined H.jn (d := d + 1) way S m h1 h2 (by omega)) (call_take H.s H.tk (c.fdiv 9) h3)
  exact ⟨S', callF_ret (D := dPut k) H.pt rfl h, ok⟩

theorem tree_loop (H : HT P k) {l : List Nat} (h3 : Three l) {a : V} : ∀ (cs : List Int) (S : List Tree) (y : V), Fine S → S.length + cs.length ≤ 900 →
    ∃ S' y', forGo (exB gl (callF gl P (d + 3)) [.asg 2 (.call 7 [(.var 2), (.var 3), (.var 1)])]) 3 (cs.map V.int) [a, .str l, .lst (S.map item), y] σ = .ok (.next, [a, .str l, .lst (S'.map item), y']) σ ∧
      Fine S' ∧ S'.length ≤ S.length + cs.length ∧ wgt S' ≤ wgt S + 2 * cs.length ∧ Tree.nods S' ≤ Tree.nods S + cs.length
  | [], S, y, hS, _ => ⟨S, y, rfl, hS, by simp, by simp, by simp⟩
  | c :: cs, S, y, hS, hn => by
    rw [List.length_cons] at hn
    obtain ⟨S₁, h1, ok⟩ := call_put (gl := gl) (d := d) (σ := σ) H (c := c) h3 hS (by omega)
    have hl1 := ok.len
    obtain ⟨S', y', h2, g1, g2, g3, g4⟩ := tree_loop H h3 (a := a) cs S₁ (.int c) ok.fine (by omega)
    refine ⟨S', y', ?_, g1, by rw [List.length_cons]; omega, by rw [List.length_cons]; have := ok.wgt; omega, by rw [List.length_cons]; have := ok.nod; omega⟩
    rw [List.map_cons, forGo_next (Γ' := [a, .str l, .lst (S₁.map item), .int c]) (σ' := σ) ((exB_asg (v := .lst (S₁.map item)) (σ' := σ) ?_).trans exB_nil0)]
    · exact h2
    · simp only [List.set_cons_succ, List.set_cons_zero, evE_cNone, evE_cBool, evE_cInt, evE_cStr, evE_var, evE_glob, evE_and, evE_or, evE_not, evE_neg, evE_bin, evE_cmp, evE_cmp2, evE_ite, evE_tup, evE_lst, evE_call, evE_bi, evE_join, evE_idx, evE_slice, evEs_nil, evEs_cons, evO_none, evO_some, getV, List.getElem?_cons_zero, List.getElem?_cons_succ, of_some, bind_ok, h1]

/-- the tree of a law -/
theorem call_tree (H : HT P k) {l : List Nat} (h3 : Three l) (cs : List Int) (hn : cs.length ≤ 400) :
    ∃ T : Tree, callF gl P (d + 4) 8 [.lst (cs.map V.int), .str l] σ = .ok (item T) σ ∧ T.Ok ∧ T.dep ≤ 13 ∧ T.cnt ≤ 2 * cs.length ∧ T.nod ≤ cs.length + 1 := by
  obtain ⟨S, y, hlp, hS, hl, hw, hnd⟩ := tree_loop (gl := gl) (d := d) (σ := σ) H h3 (a := .lst (cs.map V.int)) cs [] .undef (fun t ht => by cases ht) (by simp; omega)
  have hw : wgt S ≤ 2 * cs.length := by have : wgt [] = 0 := rfl; omega
  simp only [List.length_nil, Nat.zero_add] at hl
  rw [Tree.nods, Nat.zero_add] at hnd
  have hlen : vBi σ .len [.lst (S.map item)] = some (.int (S.length : Int)) := by rw [bi_len_l, List.length_map]
  have head : exB gl (callF gl P (d + 3)) d_l_tree_by.body [.lst (cs.map V.int), .str l, .undef, .undef] σ = exB gl (callF gl P (d + 3)) (d_l_tree_by.body.drop 2) [.lst (cs.map V.int), .str l, .lst (S.map item), y] σ := by
    refine (exB_asg (v := .lst []) (σ' := σ) ?_).trans (exB_next ((exS_for (x := .lst (cs.map V.int)) (y := .none) (σ₁ := σ) (σ₂ := σ) rfl evE_cNone rfl).trans hlp))
    simp only [evE_cNone, evE_cBool, evE_cInt, evE_cStr, evE_var, evE_glob, evE_and, evE_or, evE_not, evE_neg, evE_bin, evE_cmp, evE_cmp2, evE_ite, evE_tup, evE_lst, evE_call, evE_bi, evE_join, evE_idx, evE_slice, evEs_nil, evEs_cons, evO_none, evO_some, bind_ok, putL_0]
  have tl : ∀ {q : Int}, evE gl (callF gl P (d + 3)) (.cmp .eq (.bi .len [(.var 2)]) (.cInt q)) [.lst (cs.map V.int), .str l, .lst (S.map item), y] σ = .ok (.bool ((S.length : Int) == q)) σ := by
    intro q
    simp only [evE_cNone, evE_cBool, evE_cInt, evE_cStr, evE_var, evE_glob, evE_and, evE_or, evE_not, evE_neg, evE_bin, evE_cmp, evE_cmp2, evE_ite, evE_tup, evE_lst, evE_call, evE_bi, evE_join, evE_idx, evE_slice, evEs_nil, evEs_cons, evO_none, evO_some, getV, List.getElem?_cons_zero, List.getElem?_cons_succ, of_some, bind_ok, hlen, eq_ii]
  by_cases h0 : S.length = 0
  · refine ⟨.row [], callF_ret (D := d_l_tree_by) (Γ' := [.lst (cs.map V.int), .str l, .lst (S.map item), y]) H.tr rfl (head.trans (exB_take tl (by rw [h0]; rfl) (exB_rets (σ' := σ) ?_))), ok_row.mpr ⟨⟨by simp, by simp⟩, by simp⟩, by rw [dep_row, Tree.deps]; omega, by rw [cnt_row]; simp; omega, by rw [nod_row, Tree.nods]; omega⟩
    simp only [evE_cNone, evE_cBool, evE_cInt, evE_cStr, evE_var, evE_glob, evE_and, evE_or, evE_not, evE_neg, evE_bin, evE_cmp, evE_cmp2, evE_ite, evE_tup, evE_lst, evE_call, evE_bi, evE_join, evE_idx, evE_slice, evEs_nil, evEs_cons, evO_none, evO_some, bind_ok, tup0, tup2, tup4]; rfl
  have e0 : ((S.length : Int) == 0) = false := by rw [beq_eq_false_iff_ne]; omega
  by_cases h1 : S.length = 1
  · obtain ⟨t, rfl⟩ := List.length_eq_one_iff.mp h1
    have ht := hS t (by simp)
    refine ⟨t, callF_ret (D := d_l_tree_by) (Γ' := [.lst (cs.map V.int), .str l, .lst ([t].map item), y]) H.tr rfl (head.trans ((exB_skip tl (by rw [e0]; rfl)).trans (exB_take tl rfl (exB_rets (σ' := σ) ?_)))), ht.1, by omega, ?_, by rw [nods_one] at hnd; omega⟩
    · simp only [evE_cNone, evE_cBool, evE_cInt, evE_cStr, evE_var, evE_glob, evE_and, evE_or, evE_not, evE_neg, evE_bin, evE_cmp, evE_cmp2, evE_ite, evE_tup, evE_lst, evE_call, evE_bi, evE_join, evE_idx, evE_slice, evEs_nil, evEs_cons, evO_none, evO_some, getV, List.getElem?_cons_zero, List.getElem?_cons_succ, of_some, bind_ok, List.map_cons, idx_l0]
    · unfold wgt at hw; simp at hw; omega
  have e1 : ((S.length : Int) == 1) = false := by rw [beq_eq_false_iff_ne]; omega
  have hS0 : S ≠ [] := fun e => h0 (by rw [e]; rfl)
  obtain ⟨c, cs', rfl⟩ : ∃ c cs', cs = c :: cs' := by
    cases cs with
    | nil => simp at hl; exact (hS0 hl).elim
    | cons c cs' => exact ⟨c, cs', rfl⟩
  have hj := call_joined (gl := gl) (σ := σ) (d := d + 2) H.jn (4 + if (c.fmod 3 == 1) then 1 else 0) S S.length (by omega) (Nat.le_refl _) (by omega)
  rw [Nat.sub_self, List.take_zero, List.drop_zero, List.nil_append] at hj
  generalize hway : (4 + if (c.fmod 3 == 1) then 1 else 0 : Int) = way at hj
  refine ⟨joinT way S, callF_ret (D := d_l_tree_by) (Γ' := [.lst ((c :: cs').map V.int), .str l, .lst (S.map item), y]) H.tr rfl (head.trans ((exB_skip tl (by rw [e0]; rfl)).trans ((exB_skip tl (by rw [e1]; rfl)).trans (exB_rets (σ' := σ) ?_)))), joinT_ok (by omega) (by omega) fun t ht => (hS t ht).1, ?_, ?_, by rw [joinT_nod]; omega⟩
  · simp only [evE_cNone, evE_cBool, evE_cInt, evE_cStr, evE_var, evE_glob, evE_and, evE_or, evE_not, evE_neg, evE_bin, evE_cmp, evE_cmp2, evE_ite, evE_tup, evE_lst, evE_call, evE_bi, evE_join, evE_idx, evE_slice, evEs_nil, evEs_cons, evO_none, evO_some, getV, List.getElem?_cons_zero, List.getElem?_cons_succ, of_some, bind_ok, List.map_cons, idx_l0, vBin_mod (a := c) (b := 3) (σ := σ) (by decide), eq_ii, bi_int, vBin_add, hlen, hway]
    rw [hj, bind_ok, List.map_cons, idx_l0]; rfl
  · rw [joinT_dep]
    have := deps_le (n := 12) fun t ht => (hS t ht).2
    omega
  · have := joinT_cnt (way := way) hS0
    unfold wgt at hw
    omega
end
end Mine

namespace Mine

section
variable {gl : List V} {cf : CF} {σ : Sg} {Γ : Fm} {P : List Def} {d : Nat}

theorem three_ok (c : Int) : Three [sign c, sign (c + 31), sign (c + 62)] := ⟨_, _, _, rfl, sign_mem _, sign_mem _, sign_mem _⟩

end
end Mine

namespace Mine

section
variable {gl : List V} {cf : CF} {σ σ' : Sg} {Γ Γ' : Fm} {P : List Def}

theorem while_step {c : Ex} {b : List St} (h1 : evE gl cf c Γ σ = .ok (.bool true) σ) (h2 : exB gl cf b Γ σ = .ok (.next, Γ') σ') : exS gl cf (.while c b) Γ σ = exS gl cf (.while c b) Γ' σ' := by
  rw [exS_while0, exS_while0, loopW_unfold, h1, bind_ok, true_b, of_some, bind_ok, if_pos rfl, h2, bind_ok]
  rfl
theorem while_end {c : Ex} {b : List St} (h1 : evE gl cf c Γ σ = .ok (.bool false) σ) : exS gl cf (.while c b) Γ σ = .ok (.next, Γ) σ := by
  rw [exS_while0, loopW_unfold, h1, bind_ok, true_b, of_some, bind_ok, if_neg Bool.false_ne_true]
  rfl
theorem while_ret {c : Ex} {b : List St} {v : V} (h1 : evE gl cf c Γ σ = .ok (.bool true) σ) (h2 : exB gl cf b Γ σ = .ok (.ret v, Γ') σ') : exS gl cf (.while c b) Γ σ = .ok (.ret v, Γ') σ' := by
  rw [exS_while0, loopW_unfold, h1, bind_ok, true_b, of_some, bind_ok, if_pos rfl, h2, bind_ok]
  rfl
theorem exB_ite_else {e : Ex} {a b r : List St} {v : V} {σ₂ : Sg} (h : evE gl cf e Γ σ = .ok v σ') (ht : vTrue σ' v = some false) (hr : exB gl cf b Γ σ' = .ok (.next, Γ') σ₂) : exB gl cf (.ite e a b :: r) Γ σ = exB gl cf r Γ' σ₂ := exB_next ((exS_iteF h ht).trans hr)
theorem exB_expr {e : Ex} {r : List St} {v : V} (h : evE gl cf e Γ σ = .ok v σ') : exB gl cf (.expr e :: r) Γ σ = exB gl cf r Γ σ' := exB_next (exS_expr h)

theorem get_ref {i : Nat} {xs : List V} (h : σ[i]? = some (.lst xs)) : getL σ (.ref i) = some xs := by rw [getL, h]
theorem seq_ref {i : Nat} {xs : List V} (h : σ[i]? = some (.lst xs)) : getSeq σ (.ref i) = some xs := (show getL σ (.ref i) = some xs from get_ref h)
theorem len_ref {i : Nat} {xs : List V} (h : σ[i]? = some (.lst xs)) : vBi σ .len [.ref i] = some (.int (xs.length : Int)) := by
  show (vLen σ (.ref i)).map _ = _
  rw [vLen, h]; rfl
theorem tuple_ref {i : Nat} {xs : List V} (h : σ[i]? = some (.lst xs)) : vBi σ .tuple [.ref i] = some (.tup xs) := by
  show (getL σ (.ref i)).map V.tup = _
  rw [get_ref h]; rfl
theorem app_ref {i : Nat} {xs : List V} {v : V} (h : σ[i]? = some (.lst xs)) (hn : xs.length < roomy) : vApp σ (.ref i) v = some (σ.set i (.lst (xs ++ [v]))) := by
  rw [vApp, h]; simp only [hn, if_true]
theorem live_ref {i : Nat} {xs : List V} (h : σ[i]? = some (.lst xs)) : liveL σ (.ref i) = some () := by rw [liveL, h]
theorem pop_ref {i : Nat} {xs : List V} {v : V} (h : σ[i]? = some (.lst (xs ++ [v]))) : vPop σ (.ref i) = some (v, σ.set i (.lst xs)) := by
  rw [vPop, h]; simp
/-- o.append(x), where x leaves the store alone or lets it grow -/
theorem evE_appR {o x : Ex} {i : Nat} {xs ys : List V} {v : V} {σ₁ : Sg} (h1 : evE gl cf o Γ σ = .ok (.ref i) σ) (h2 : σ[i]? = some (.lst xs)) (h3 : evE gl cf x Γ σ = .ok v σ₁) (h4 : σ₁[i]? = some (.lst ys)) (hn : ys.length < roomy) :
    evE gl cf (.app o x) Γ σ = .ok .none (σ₁.set i (.lst (ys ++ [v]))) := by
  rw [evE_app, h1, bind_ok, live_ref h2, of_some, bind_ok, h3, bind_ok, app_ref h4 hn]; rfl
theorem evE_popR {o : Ex} {i : Nat} {xs : List V} {v : V} (h1 : evE gl cf o Γ σ = .ok (.ref i) σ) (h2 : σ[i]? = some (.lst (xs ++ [v]))) : evE gl cf (.pop o) Γ σ = .ok v (σ.set i (.lst xs)) := by
  rw [evE_pop, h1, bind_ok, pop_ref h2]; rfl
theorem putL_t {xs : List V} (h : xs.length ≤ roomy) : putL true xs σ = .ok (.ref σ.length) (σ ++ [.lst xs]) := by rw [putL, if_pos h]; rfl

/-! ### the groups of a reading -/
abbrev Ad := Nat × Nat × Nat
noncomputable def Grp (σ : Sg) (a : Ad) (x : List Tree × List Tree) : Prop := σ[a.1]? = some (.lst [.ref a.2.1, .ref a.2.2]) ∧ σ[a.2.1]? = some (.lst (x.1.map Tree.v)) ∧ σ[a.2.2]? = some (.lst (x.2.map Tree.v))
noncomputable def All2 (σ : Sg) : List Ad → List (List Tree × List Tree) → Prop
  | [], [] => True
  | a :: As, x :: X => Grp σ a x ∧ All2 σ As X
  | _, _ => False
noncomputable def adrs : List Ad → List Nat
  | [] => []
  | a :: r => a.1 :: a.2.1 :: a.2.2 :: adrs r
/-- the groups, the innermost first -/
structure GS (σ : Sg) (g : Nat) (As : List Ad) (X : List (List Tree × List Tree)) : Prop where
  top : σ[g]? = some (.lst (As.map fun a => V.ref a.1).reverse)
  all : All2 σ As X
  nd : (g :: adrs As).Nodup

theorem Grp.frame {a : Ad} {x : List Tree × List Tree} (h : Grp σ a x) (h1 : σ'[a.1]? = σ[a.1]?) (h2 : σ'[a.2.1]? = σ[a.2.1]?) (h3 : σ'[a.2.2]? = σ[a.2.2]?) : Grp σ' a x := ⟨h1.trans h.1, h2.trans h.2.1, h3.trans h.2.2⟩
theorem All2.frame : ∀ {As : List Ad} {X : List (List Tree × List Tree)}, All2 σ As X → (∀ i ∈ adrs As, σ'[i]? = σ[i]?) → All2 σ' As X
  | [], [], _, _ => trivial
  | a :: As, x :: X, h, hi => ⟨h.1.frame (hi _ (by simp [adrs])) (hi _ (by simp [adrs])) (hi _ (by simp [adrs])), h.2.frame fun i hm => hi i (by simp [adrs, hm])⟩
theorem All2.lt : ∀ {As : List Ad} {X : List (List Tree × List Tree)}, All2 σ As X → ∀ i ∈ adrs As, i < σ.length
  | a :: As, x :: X, h, i, hi => by
    simp only [adrs, List.mem_cons] at hi
    rcases hi with rfl | rfl | rfl | hi
    · exact (List.getElem?_eq_some_iff.mp h.1.1).1
    · exact (List.getElem?_eq_some_iff.mp h.1.2.1).1
    · exact (List.getElem?_eq_some_iff.mp h.1.2.2).1
    · exact h.2.lt i hi
theorem GS.lt {g : Nat} {As : List Ad} {X : List (List Tree × List Tree)} (h : GS σ g As X) : g < σ.length := (List.getElem?_eq_some_iff.mp h.top).1
/-- cells that come behind change nothing -/
theorem GS.ext {g : Nat} {As : List Ad} {X : List (List Tree × List Tree)} (h : GS σ g As X) (e : List Cell) : GS (σ ++ e) g As X :=
  ⟨by rw [List.getElem?_append_left h.lt]; exact h.top, h.all.frame fun i hi => List.getElem?_append_left (h.all.lt i hi), h.nd⟩

theorem set_ne {i j : Nat} {c : Cell} (h : i ≠ j) : (σ.set i c)[j]? = σ[j]? := List.getElem?_set_ne h
theorem set_eq {i : Nat} {c : Cell} (h : i < σ.length) : (σ.set i c)[i]? = some c := by rw [List.getElem?_set_self' ]; simp [h]

structure Apt (g : Nat) (a : Ad) (As : List Ad) : Prop where
  g1 : g ≠ a.1
  g2 : g ≠ a.2.1
  g3 : g ≠ a.2.2
  d12 : a.1 ≠ a.2.1
  d13 : a.1 ≠ a.2.2
  d23 : a.2.1 ≠ a.2.2
  r : ∀ i ∈ adrs As, i ≠ g ∧ i ≠ a.1 ∧ i ≠ a.2.1 ∧ i ≠ a.2.2
  nd : (g :: adrs As).Nodup
theorem apt {g : Nat} {a : Ad} {As : List Ad} (h : (g :: adrs (a :: As)).Nodup) : Apt g a As := by
  simp only [adrs, List.nodup_cons, List.mem_cons, not_or] at h
  obtain ⟨⟨h1, h2, h3, h4⟩, ⟨h5, h6, h7⟩, ⟨h8, h9⟩, h10, h11⟩ := h
  exact ⟨h1, h2, h3, h5, h6, h8, fun i hi => ⟨fun e => h4 (e ▸ hi), fun e => h7 (e ▸ hi), fun e => h9 (e ▸ hi), fun e => h10 (e ▸ hi)⟩, List.nodup_cons.mpr ⟨h4, h11⟩⟩

variable {g : Nat} {a : Ad} {As : List Ad} {x : List Tree × List Tree} {X : List (List Tree × List Tree)}

/-- a tree behind the pieces of the innermost group -/
theorem GS.push (h : GS σ g (a :: As) (x :: X)) (ts : List Tree) : GS (σ.set a.2.2 (.lst (ts.map Tree.v))) g (a :: As) ((x.1, ts) :: X) := by
  have A := apt h.nd
  refine ⟨by rw [set_ne A.g3.symm]; exact h.top, ⟨⟨by rw [set_ne A.d13.symm]; exact h.all.1.1, by rw [set_ne A.d23.symm]; exact h.all.1.2.1, ?_⟩, h.all.2.frame fun i hi => set_ne (A.r i hi).2.2.2.symm⟩, h.nd⟩
  exact set_eq (List.getElem?_eq_some_iff.mp h.all.1.2.2).1
/-- a row closed -/
theorem GS.alt (h : GS σ g (a :: As) (x :: X)) (ts : List Tree) : GS (σ.set a.2.1 (.lst (ts.map Tree.v))) g (a :: As) ((ts, x.2) :: X) := by
  have A := apt h.nd
  refine ⟨by rw [set_ne A.g2.symm]; exact h.top, ⟨⟨by rw [set_ne A.d12.symm]; exact h.all.1.1, ?_, by rw [set_ne A.d23]; exact h.all.1.2.2⟩, h.all.2.frame fun i hi => set_ne (A.r i hi).2.2.1.symm⟩, h.nd⟩
  exact set_eq (List.getElem?_eq_some_iff.mp h.all.1.2.1).1
/-- the pieces anew -/
theorem GS.fresh (h : GS σ g (a :: As) (x :: X)) : GS ((σ ++ [Cell.lst []]).set a.1 (.lst [.ref a.2.1, .ref σ.length])) g ((a.1, a.2.1, σ.length) :: As) ((x.1, []) :: X) := by
  have A := apt h.nd
  have hE := h.ext [.lst []]
  have l1 := (List.getElem?_eq_some_iff.mp h.all.1.1).1
  have l2 := (List.getElem?_eq_some_iff.mp h.all.1.2.1).1
  have hg := h.lt
  refine ⟨by rw [set_ne A.g1.symm, hE.top]; rfl, ⟨⟨?_, ?_, ?_⟩, hE.all.2.frame fun i hi => set_ne (A.r i hi).2.1.symm⟩, ?_⟩
  · exact set_eq (by rw [List.length_append]; simp only [List.length_cons, List.length_nil]; omega)
  · rw [set_ne A.d12]; exact hE.all.1.2.1
  · show ((σ ++ [Cell.lst []]).set a.1 _)[σ.length]? = _
    rw [set_ne (by omega), List.getElem?_concat_length]; rfl
  · show (g :: a.1 :: a.2.1 :: σ.length :: adrs As).Nodup
    have hr : ∀ i ∈ adrs As, i < σ.length := h.all.2.lt
    have n1 := A.nd
    simp only [List.nodup_cons] at n1 ⊢
    simp only [List.mem_cons, not_or]
    refine ⟨⟨A.g1, A.g2, by omega, n1.1⟩, ⟨A.d12, by omega, fun hm => (A.r _ hm).2.1 rfl⟩, ⟨by omega, fun hm => (A.r _ hm).2.2.1 rfl⟩, fun hm => ?_, n1.2⟩
    have := hr _ hm; omega
/-- one group more -/
theorem GS.opened (h : GS σ g As X) : GS ((σ ++ [Cell.lst []] ++ [Cell.lst []] ++ [Cell.lst [.ref σ.length, .ref (σ.length + 1)]]).set g (.lst ((As.map fun a => V.ref a.1).reverse ++ [.ref (σ.length + 2)]))) g ((σ.length + 2, σ.length, σ.length + 1) :: As) (([], []) :: X) := by
  have hE := ((h.ext [.lst []]).ext [.lst []]).ext [.lst [.ref σ.length, .ref (σ.length + 1)]]
  have hg := h.lt
  have hr : ∀ i ∈ adrs As, i < σ.length := h.all.lt
  have n1 := h.nd
  simp only [List.nodup_cons] at n1
  have ln : (σ ++ [Cell.lst []] ++ [Cell.lst []] ++ [Cell.lst [.ref σ.length, .ref (σ.length + 1)]]).length = σ.length + 3 := by simp
  refine ⟨?_, ⟨⟨?_, ?_, ?_⟩, hE.all.frame fun i hi => set_ne fun e => n1.1 (e ▸ hi)⟩, ?_⟩
  · rw [set_eq (by rw [ln]; omega)]; simp
  · show ((σ ++ _ ++ _ ++ _).set g _)[σ.length + 2]? = _
    rw [set_ne (by omega)]; simp
  · show ((σ ++ _ ++ _ ++ _).set g _)[σ.length]? = _
    rw [set_ne (by omega)]; simp
  · show ((σ ++ _ ++ _ ++ _).set g _)[σ.length + 1]? = _
    rw [set_ne (by omega)]; simp
  · show (g :: (σ.length + 2) :: σ.length :: (σ.length + 1) :: adrs As).Nodup
    simp only [List.nodup_cons, List.mem_cons, not_or]
    refine ⟨⟨by omega, by omega, by omega, n1.1⟩, ⟨by omega, by omega, fun hm => ?_⟩, ⟨by omega, fun hm => ?_⟩, fun hm => ?_, n1.2⟩ <;> (have := hr _ hm; omega)
/-- the innermost group taken off -/
theorem GS.popped (h : GS σ g (a :: As) (x :: X)) : GS (σ.set g (.lst (As.map fun a => V.ref a.1).reverse)) g As X ∧ Grp (σ.set g (.lst (As.map fun a => V.ref a.1).reverse)) a x := by
  have A := apt h.nd
  exact ⟨⟨set_eq h.lt, h.all.2.frame fun i hi => set_ne (A.r i hi).1.symm, A.nd⟩, h.all.1.frame (set_ne A.g1) (set_ne A.g2) (set_ne A.g3)⟩
end
end Mine

namespace Mine

/-- the tree of a row of pieces, and of a group -/
noncomputable def rt (Q : List Tree) : Tree := match Q with | [t] => t | _ => .row Q
noncomputable def gt (x : List Tree × List Tree) : Tree := match x.1 with | [] => rt x.2 | _ => .pick (x.1 ++ [rt x.2])

structure HR (P : List Def) : Prop where
  ba : P[10]? = some d_bare
  rw : P[14]? = some d_row_tree
  gr : P[15]? = some d_group_tree
  se : P[16]? = some d_set_at
  ta : P[17]? = some d_take_at
  re : P[18]? = some d_repeated
  cl : P[19]? = some d_closed
  rd : P[20]? = some d_read

section
variable {gl : List V} {cf : CF} {σ σ' : Sg} {Γ Γ' : Fm} {P : List Def} {d : Nat} {g : Nat} {a b : Ad} {As : List Ad} {x y : List Tree × List Tree} {X : List (List Tree × List Tree)}

theorem len_ref_t {i : Nat} {Q : List Tree} (h : σ[i]? = some (.lst (Q.map Tree.v))) : vBi σ .len [.ref i] = some (.int (Q.length : Int)) := by rw [len_ref h, List.length_map]

theorem rt_other {Q : List Tree} (h : Q.length ≠ 1) : rt Q = .row Q := by
  match Q, h with
  | [], _ => rfl
  | [_], h => exact (h rfl).elim
  | _ :: _ :: _, _ => rfl

theorem call_rowG {f : Nat} (H : P[f]? = some d_row_tree) {q : Nat} {Q : List Tree} (h : σ[q]? = some (.lst (Q.map Tree.v))) : callF gl P (d + 1) f [.ref q] σ = .ok (rt Q).v σ := by
  refine callF_ret (D := d_row_tree) (Γ' := [.ref q]) H rfl ?_
  have t1 : evE gl (callF gl P d) (.cmp .eq (.bi .len [(.var 0)]) (.cInt 1)) [.ref q] σ = .ok (.bool ((Q.length : Int) == 1)) σ := by
    simp only [evE_cNone, evE_cBool, evE_cInt, evE_cStr, evE_var, evE_glob, evE_and, evE_or, evE_not, evE_neg, evE_bin, evE_cmp, evE_cmp2, evE_ite, evE_tup, evE_lst, evE_call, evE_bi, evE_join, evE_idx, evE_slice, evEs_nil, evEs_cons, evO_none, evO_some, getV, List.getElem?_cons_zero, List.getElem?_cons_succ, of_some, bind_ok, len_ref_t h, eq_ii]
  by_cases h1 : Q.length = 1
  · obtain ⟨t, rfl⟩ := List.length_eq_one_iff.mp h1
    refine exB_take t1 rfl (exB_rets (σ' := σ) ?_)
    show evE gl _ _ [.ref q] σ = _
    simp only [evE_cNone, evE_cBool, evE_cInt, evE_cStr, evE_var, evE_glob, evE_and, evE_or, evE_not, evE_neg, evE_bin, evE_cmp, evE_cmp2, evE_ite, evE_tup, evE_lst, evE_call, evE_bi, evE_join, evE_idx, evE_slice, evEs_nil, evEs_cons, evO_none, evO_some, getV, List.getElem?_cons_zero, List.getElem?_cons_succ, of_some, bind_ok, vIdx_seq 0 (by decide) (seq_ref h) rfl]
    rw [show vIdx σ (.ref q) (.int 0) = some t.v from vIdx_seq 0 (by decide) (seq_ref h) rfl]; rfl
  · have e1 : ((Q.length : Int) == 1) = false := by rw [beq_eq_false_iff_ne]; omega
    rw [e1] at t1
    refine (exB_skip t1 rfl).trans (exB_rets (σ' := σ) ?_)
    show evE gl _ _ [.ref q] σ = _
    rw [rt_other h1, v_row]
    simp only [evE_cNone, evE_cBool, evE_cInt, evE_cStr, evE_var, evE_glob, evE_and, evE_or, evE_not, evE_neg, evE_bin, evE_cmp, evE_cmp2, evE_ite, evE_tup, evE_lst, evE_call, evE_bi, evE_join, evE_idx, evE_slice, evEs_nil, evEs_cons, evO_none, evO_some, getV, List.getElem?_cons_zero, List.getElem?_cons_succ, of_some, bind_ok, tuple_ref h, tup2]

theorem call_row (H : HR P) {q : Nat} {Q : List Tree} (h : σ[q]? = some (.lst (Q.map Tree.v))) : callF gl P (d + 1) 14 [.ref q] σ = .ok (rt Q).v σ := call_rowG H.rw h

theorem add_refl {i : Nat} {xs ys : List V} (h : σ[i]? = some (.lst xs)) (hn : xs.length + ys.length ≤ roomy) : vBin σ .add (.ref i) (.lst ys) = some (.lst (xs ++ ys)) := by
  show ((getL σ (.ref i)).bind fun xs => (getL σ (.lst ys)).bind fun ys => addL xs ys) = _
  rw [get_ref h]
  show addL xs ys = _
  rw [addL, if_pos hn]

theorem call_group (H : HR P) (h : Grp σ a x) (hn : x.1.length < roomy) : callF gl P (d + 2) 15 [.ref a.1] σ = .ok (gt x).v σ := by
  obtain ⟨h1, h2, h3⟩ := h
  have hr := call_row (gl := gl) (d := d) H h3
  have i0 : vIdx σ (.ref a.1) (.int 0) = some (.ref a.2.1) := vIdx_seq 0 (by decide) (seq_ref h1) rfl
  have i1 : vIdx σ (.ref a.1) (.int 1) = some (.ref a.2.2) := vIdx_seq 1 (by decide) (seq_ref h1) rfl
  have ha : vBin σ .add (.ref a.2.1) (.lst [(rt x.2).v]) = some (.lst ((x.1 ++ [rt x.2]).map Tree.v)) := by
    rw [add_refl h2 (by rw [List.length_map]; simp only [List.length_cons, List.length_nil]; omega), List.map_append]; rfl
  have s1 : evE gl (callF gl P (d + 1)) (.bin .add (.idx (.var 0) (.cInt 0)) (.lst false [(.call 14 [(.idx (.var 0) (.cInt 1))])])) [.ref a.1, .undef] σ = .ok (.lst ((x.1 ++ [rt x.2]).map Tree.v)) σ := by
    simp only [evE_cNone, evE_cBool, evE_cInt, evE_cStr, evE_var, evE_glob, evE_and, evE_or, evE_not, evE_neg, evE_bin, evE_cmp, evE_cmp2, evE_ite, evE_tup, evE_lst, evE_call, evE_bi, evE_join, evE_idx, evE_slice, evEs_nil, evEs_cons, evO_none, evO_some, getV, List.getElem?_cons_zero, List.getElem?_cons_succ, of_some, bind_ok, i0, i1, hr, putL_1, ha]
  have t1 : evE gl (callF gl P (d + 1)) (.cmp .eq (.bi .len [(.var 1)]) (.cInt 1)) [.ref a.1, .lst ((x.1 ++ [rt x.2]).map Tree.v)] σ = .ok (.bool (((x.1.length : Int) + 1) == 1)) σ := by
    simp only [evE_cNone, evE_cBool, evE_cInt, evE_cStr, evE_var, evE_glob, evE_and, evE_or, evE_not, evE_neg, evE_bin, evE_cmp, evE_cmp2, evE_ite, evE_tup, evE_lst, evE_call, evE_bi, evE_join, evE_idx, evE_slice, evEs_nil, evEs_cons, evO_none, evO_some, getV, List.getElem?_cons_zero, List.getElem?_cons_succ, of_some, bind_ok, bi_len_l, List.length_map, List.length_append, List.length_cons, List.length_nil, eq_ii]
    rfl
  refine callF_ret (D := d_group_tree) (Γ' := [.ref a.1, .lst ((x.1 ++ [rt x.2]).map Tree.v)]) H.gr rfl ((exB_asg s1).trans ?_)
  obtain ⟨x1, x2⟩ := x
  cases x1 with
  | nil =>
    refine exB_take t1 rfl (exB_rets (σ' := σ) ?_)
    show evE gl _ _ [.ref a.1, .lst (([] ++ [rt x2]).map Tree.v)] σ = _
    simp only [evE_cNone, evE_cBool, evE_cInt, evE_cStr, evE_var, evE_glob, evE_and, evE_or, evE_not, evE_neg, evE_bin, evE_cmp, evE_cmp2, evE_ite, evE_tup, evE_lst, evE_call, evE_bi, evE_join, evE_idx, evE_slice, evEs_nil, evEs_cons, evO_none, evO_some, getV, List.getElem?_cons_zero, List.getElem?_cons_succ, of_some, bind_ok, List.nil_append, List.map_cons, idx_l0]
    rfl
  | cons z r =>
    have e1 : ((((z :: r).length : Int) + 1) == 1) = false := by rw [beq_eq_false_iff_ne, List.length_cons]; omega
    dsimp only at t1
    rw [e1] at t1
    refine (exB_skip t1 rfl).trans (exB_rets (σ' := σ) ?_)
    show evE gl _ _ [.ref a.1, .lst (((z :: r) ++ [rt x2]).map Tree.v)] σ = _
    simp only [evE_cNone, evE_cBool, evE_cInt, evE_cStr, evE_var, evE_glob, evE_and, evE_or, evE_not, evE_neg, evE_bin, evE_cmp, evE_cmp2, evE_ite, evE_tup, evE_lst, evE_call, evE_bi, evE_join, evE_idx, evE_slice, evEs_nil, evEs_cons, evO_none, evO_some, getV, List.getElem?_cons_zero, List.getElem?_cons_succ, of_some, bind_ok, bi_tuple, tup2]
    show _ = Res.ok (Tree.pick ((z :: r) ++ [rt x2])).v σ
    rw [v_pick]

theorem top_last (h : GS σ g (a :: As) X) : vIdx σ (.ref g) (.int (-1)) = some (.ref a.1) := vIdx_last (seq_ref h.top) rfl (by simp)

theorem call_closed (H : HR P) (h : GS σ g (a :: b :: As) (x :: y :: X)) (hn : x.1.length < roomy) (hm : y.2.length < roomy) :
    ∃ σ', callF gl P (d + 3) 19 [.ref g] σ = .ok .none σ' ∧ GS σ' g (b :: As) ((y.1, y.2 ++ [gt x]) :: X) := by
  obtain ⟨h1, h2⟩ := h.popped
  refine ⟨_, ?_, h1.push (y.2 ++ [gt x])⟩
  have hlen : vBi σ .len [.ref g] = some (.int ((As.length : Int) + 2)) := by rw [len_ref h.top]; simp
  have t1 : evE gl (callF gl P (d + 2)) (.cmp .eq (.bi .len [(.var 0)]) (.cInt 1)) [.ref g, .undef] σ = .ok (.bool false) σ := by
    simp only [evE_cNone, evE_cBool, evE_cInt, evE_cStr, evE_var, evE_glob, evE_and, evE_or, evE_not, evE_neg, evE_bin, evE_cmp, evE_cmp2, evE_ite, evE_tup, evE_lst, evE_call, evE_bi, evE_join, evE_idx, evE_slice, evEs_nil, evEs_cons, evO_none, evO_some, getV, List.getElem?_cons_zero, List.getElem?_cons_succ, of_some, bind_ok, hlen, eq_ii]
    rw [beq_eq_false_iff_ne.mpr (by omega)]
  have htop := h.top
  rw [List.map_cons, List.reverse_cons] at htop
  have hp : evE gl (callF gl P (d + 2)) (.pop (.var 0)) [.ref g, .undef] σ = .ok (.ref a.1) (σ.set g (.lst ((b :: As).map fun a => V.ref a.1).reverse)) := evE_popR rfl htop
  generalize hσ : σ.set g (.lst ((b :: As).map fun a => V.ref a.1).reverse) = σ₁ at h1 h2 hp ⊢
  have hg := call_group (gl := gl) (d := d) H h2 hn
  have s1 : evE gl (callF gl P (d + 2)) (.call 15 [(.pop (.var 0))]) [.ref g, .undef] σ = .ok (gt x).v σ₁ := by
    rw [evE_call, evEs_cons, hp, bind_ok, evEs_nil, bind_ok, bind_ok, hg]
  have i1 : vIdx σ₁ (.ref b.1) (.int 1) = some (.ref b.2.2) := vIdx_seq 1 (by decide) (seq_ref h1.all.1.1) rfl
  have ob : evE gl (callF gl P (d + 2)) (.idx (.idx (.var 0) (.neg (.cInt 1))) (.cInt 1)) [.ref g, (gt x).v] σ₁ = .ok (.ref b.2.2) σ₁ := by
    simp only [evE_cNone, evE_cBool, evE_cInt, evE_cStr, evE_var, evE_glob, evE_and, evE_or, evE_not, evE_neg, evE_bin, evE_cmp, evE_cmp2, evE_ite, evE_tup, evE_lst, evE_call, evE_bi, evE_join, evE_idx, evE_slice, evEs_nil, evEs_cons, evO_none, evO_some, getV, List.getElem?_cons_zero, List.getElem?_cons_succ, of_some, bind_ok, neg_i, top_last h1, i1]
  have hv := getV_t (Γ := [.ref g, (gt x).v]) (i := 1) (t := gt x) rfl
  rw [callF_eq H.cl rfl]
  show (exB gl _ d_closed.body [.ref g, .undef] σ).bind _ = _
  have e1 : exB gl (callF gl P (d + 2)) d_closed.body [.ref g, .undef] σ = .ok (.next, [.ref g, (gt x).v]) (σ₁.set b.2.2 (.lst ((y.2 ++ [gt x]).map Tree.v))) := by
    refine (exB_skip t1 rfl).trans ((exB_asg s1).trans ((exB_expr (evE_appR ob h1.all.1.2.2 (v := (gt x).v) (σ₁ := σ₁) ?_ h1.all.1.2.2 (by rw [List.length_map]; exact hm))).trans ?_))
    · rw [evE_var, hv, of_some]
    · rw [List.map_append]; rfl
  rw [e1, bind_ok]; rfl

/-! ### signs of the pattern -/
theorem at_idx {w : List Nat} {k : Nat} {c : Nat} (h : w[k]? = some c) (hk : k < 1000000) : vIdx σ (.str w) (.int (k : Int)) = some (.str [c]) :=
  vIdx_seq k hk rfl (by rw [List.getElem?_map, h]; rfl)
theorem cut_at {w : List Nat} {k : Nat} (hk : k < 1000000) : vCut σ (.str w) (some (k : Int)) (some ((k : Int) + 1)) = some (.str ((w[k]?).toList)) := by
  rw [vCut_s (lo := some (k : Int)) (hi := some ((k : Int) + 1)) (small_of (by omega) (by omega)) (small_of (by omega) (by omega)), show ((k : Int) + 1) = ((k + 1 : Nat) : Int) by omega, cut_mid k (k + 1) (by omega)]
  congr 2
  by_cases h : k < w.length
  · rw [List.getElem?_eq_getElem h, List.take_succ, List.getElem?_eq_getElem h, List.drop_append, List.drop_of_length_le (by rw [List.length_take]; omega), List.length_take, Nat.min_eq_left (by omega)]
    simp
  · rw [List.getElem?_eq_none (by omega), List.drop_of_length_le (by rw [List.length_take]; omega)]; rfl
theorem opt_eq {o : Option Nat} {c : Nat} : (o.toList == [c]) = (o == some c) := by
  cases o with
  | none => rfl
  | some x => simp

theorem len_str {w : List Nat} : vBi σ .len [.str w] = some (.int (w.length : Int)) := bi_len_s
end
end Mine

namespace Mine

noncomputable def setText : List (Bool × Nat) → List Nat
  | [] => []
  | (true, c) :: r => 126 :: c :: setText r
  | (false, c) :: r => c :: setText r
noncomputable def setFine (es : List (Bool × Nat)) : Prop := ∀ p ∈ es, p.1 = false → p.2 ≠ 93 ∧ p.2 ≠ 126

section
variable {gl : List V} {cf : CF} {σ σ' : Sg} {Γ Γ' : Fm} {P : List Def} {d : Nat} {g : Nat} {a b : Ad} {As : List Ad} {x y : List Tree × List Tree} {X : List (List Tree × List Tree)} {w : List Nat} {k : Nat}

theorem drop_head {c : Nat} {r : List Nat} (h : w.drop k = c :: r) : w[k]? = some c ∧ w.drop (k + 1) = r ∧ k < w.length := by
  have hlt : k < w.length := by
    by_cases hh : k < w.length
    · exact hh
    · rw [List.drop_of_length_le (by omega)] at h; cases h
  rw [List.drop_eq_getElem_cons hlt] at h
  injection h with h1 h2
  exact ⟨by rw [List.getElem?_eq_getElem hlt, h1], h2, hlt⟩

theorem idx_test {i j : Nat} {c : Nat} {t : List Nat} (h0 : Γ[i]? = some (.str w)) (h1 : Γ[j]? = some (.int (k : Int))) (h : w[k]? = some c) (hk : k < 1000000) : evE gl cf (.cmp .eq (.idx (.var i) (.var j)) (.cStr t)) Γ σ = .ok (.bool ([c] == t)) σ := by
  simp only [evE_cNone, evE_cBool, evE_cInt, evE_cStr, evE_var, evE_glob, evE_and, evE_or, evE_not, evE_neg, evE_bin, evE_cmp, evE_cmp2, evE_ite, evE_tup, evE_lst, evE_call, evE_bi, evE_join, evE_idx, evE_slice, evEs_nil, evEs_cons, evO_none, evO_some, getV, h0, h1, of_some, bind_ok, at_idx h hk, eq_ss]
theorem idx_ev {i j : Nat} {c : Nat} (h0 : Γ[i]? = some (.str w)) (h1 : Γ[j]? = some (.int (k : Int))) (h : w[k]? = some c) (hk : k < 1000000) : evE gl cf (.idx (.var i) (.var j)) Γ σ = .ok (.str [c]) σ := by
  simp only [evE_cNone, evE_cBool, evE_cInt, evE_cStr, evE_var, evE_glob, evE_and, evE_or, evE_not, evE_neg, evE_bin, evE_cmp, evE_cmp2, evE_ite, evE_tup, evE_lst, evE_call, evE_bi, evE_join, evE_idx, evE_slice, evEs_nil, evEs_cons, evO_none, evO_some, getV, h0, h1, of_some, bind_ok, at_idx h hk]
theorem at_test {i j : Nat} (h0 : Γ[i]? = some (.str w)) (h1 : Γ[j]? = some (.int (k : Int))) : evE gl cf (.cmp .lt (.var j) (.bi .len [(.var i)])) Γ σ = .ok (.bool (decide (k < w.length))) σ := by
  have e : decide ((k : Int) < (w.length : Int)) = decide (k < w.length) := by
    by_cases h : k < w.length
    · rw [decide_eq_true h, decide_eq_true (by omega)]
    · rw [decide_eq_false h, decide_eq_false (by omega)]
  simp only [evE_cNone, evE_cBool, evE_cInt, evE_cStr, evE_var, evE_glob, evE_and, evE_or, evE_not, evE_neg, evE_bin, evE_cmp, evE_cmp2, evE_ite, evE_tup, evE_lst, evE_call, evE_bi, evE_join, evE_idx, evE_slice, evEs_nil, evEs_cons, evO_none, evO_some, getV, h0, h1, of_some, bind_ok, len_str, lt_ii, e]
theorem end_test {i j : Nat} (h0 : Γ[i]? = some (.str w)) (h1 : Γ[j]? = some (.int (k : Int))) (h : k < w.length) : evE gl cf (.cmp .eq (.var j) (.bi .len [(.var i)])) Γ σ = .ok (.bool false) σ := by
  simp only [evE_cNone, evE_cBool, evE_cInt, evE_cStr, evE_var, evE_glob, evE_and, evE_or, evE_not, evE_neg, evE_bin, evE_cmp, evE_cmp2, evE_ite, evE_tup, evE_lst, evE_call, evE_bi, evE_join, evE_idx, evE_slice, evEs_nil, evEs_cons, evO_none, evO_some, getV, h0, h1, of_some, bind_ok, len_str, eq_ii, beq_eq_false_iff_ne.mpr (show (k : Int) ≠ (w.length : Int) by omega)]
theorem inc_ev {j : Nat} {n : Nat} (h1 : Γ[j]? = some (.int (k : Int))) : evE gl cf (.bin .add (.var j) (.cInt (n : Int))) Γ σ = .ok (.int ((k + n : Nat) : Int)) σ := by
  simp only [evE_cNone, evE_cBool, evE_cInt, evE_cStr, evE_var, evE_glob, evE_and, evE_or, evE_not, evE_neg, evE_bin, evE_cmp, evE_cmp2, evE_ite, evE_tup, evE_lst, evE_call, evE_bi, evE_join, evE_idx, evE_slice, evEs_nil, evEs_cons, evO_none, evO_some, getV, h1, of_some, bind_ok, vBin_add]; rfl
theorem ne1 {c t : Nat} (h : c ≠ t) : ([c] == [t]) = false := by simp [h]
theorem join_ref {s : List Nat} {i : Nat} {xs : List V} (h : σ[i]? = some (.lst xs)) : vJoin σ (.str s) (.ref i) = vJoin σ (.str s) (.lst xs) := by
  show ((getL σ (.ref i)).bind strsV).bind _ = ((getL σ (.lst xs)).bind strsV).bind _
  rw [get_ref h]; rfl

noncomputable def setW : St := .while (.cmp .lt (.var 1) (.bi .len [(.var 0)]))
     [.ite (.cmp .eq (.idx (.var 0) (.var 1)) (.cStr [93]))
        [.ret (.tup [(.tup [(.cStr [116, 97, 107, 101]), (.var 2), (.join (.cStr []) (.var 3))]), (.bin .add (.var 1) (.cInt 1))])]
        [],
      .ite (.cmp .eq (.idx (.var 0) (.var 1)) (.cStr [126]))
        [.asg 1 (.bin .add (.var 1) (.cInt 1)),
         .ite (.cmp .eq (.var 1) (.bi .len [(.var 0)]))
           [.raise 1]
           []]
        [],
      .expr (.app (.var 3) (.idx (.var 0) (.var 1))),
      .asg 1 (.bin .add (.var 1) (.cInt 1))]

theorem set_loop (hw : w.length < 1000000) {ins : Bool} {post : List Nat} : ∀ (es : List (Bool × Nat)) (cs : List Nat) (k : Nat), setFine es → w.drop k = setText es ++ 93 :: post → cs.length + es.length < 100000 →
    ∃ Γ, exS gl cf setW [.str w, .int (k : Int), .bool ins, .ref σ.length] (σ ++ [.lst (cs.map fun c => .str [c])]) = .ok (.ret (.tup [(Tree.take ins (cs ++ es.map (·.2))).v, .int ((k + (setText es).length + 1 : Nat) : Int)]), Γ) (σ ++ [.lst ((cs ++ es.map (·.2)).map fun c => .str [c])])
  | [], cs, k, _, hd, hl => by
    obtain ⟨h1, h2, h3⟩ := drop_head (show w.drop k = 93 :: post from hd)
    have hr : (σ ++ [Cell.lst (cs.map fun c => .str [c])])[σ.length]? = some (.lst (cs.map fun c => V.str [c])) := List.getElem?_concat_length
    refine ⟨[.str w, .int (k : Int), .bool ins, .ref σ.length], (while_ret (v := .tup [(Tree.take ins cs).v, .int ((k + 1 : Nat) : Int)]) (Γ' := [.str w, .int (k : Int), .bool ins, .ref σ.length]) ((at_test rfl rfl).trans (by rw [decide_eq_true h3])) (exB_take (idx_test rfl rfl h1 (by omega)) rfl (exB_rets (σ' := σ ++ [.lst (cs.map fun c => .str [c])]) ?_))).trans ?_⟩
    · have hj := vJoin_signs (σ := σ ++ [.lst (cs.map fun c => .str [c])]) (g := fun c : Nat => c) (l := cs) (by simp only [List.length_nil] at hl; unfold roomy; omega)
      simp only [evE_cNone, evE_cBool, evE_cInt, evE_cStr, evE_var, evE_glob, evE_and, evE_or, evE_not, evE_neg, evE_bin, evE_cmp, evE_cmp2, evE_ite, evE_tup, evE_lst, evE_call, evE_bi, evE_join, evE_idx, evE_slice, evEs_nil, evEs_cons, evO_none, evO_some, getV, List.getElem?_cons_zero, List.getElem?_cons_succ, of_some, bind_ok, join_ref hr, hj, List.map_id', vBin_add, tup3, tup2]
      rfl
    · simp only [List.map_nil, List.append_nil, setText, List.length_nil, Nat.add_zero]
  | (true, c) :: es, cs, k, hf, hd, hl => by
    obtain ⟨h1, h2, h3⟩ := drop_head (show w.drop k = 126 :: (c :: (setText es ++ 93 :: post)) from hd)
    obtain ⟨h4, h5, h6⟩ := drop_head h2
    rw [List.length_cons] at hl
    obtain ⟨Γ, ih⟩ := set_loop hw (ins := ins) es (cs ++ [c]) (k + 2) (fun p hp => hf p (List.mem_cons_of_mem _ hp)) h5 (by rw [List.length_append]; simp only [List.length_cons, List.length_nil]; omega)
    refine ⟨Γ, ?_⟩
    have hr : (σ ++ [Cell.lst (cs.map fun c => .str [c])])[σ.length]? = some (.lst (cs.map fun c => V.str [c])) := List.getElem?_concat_length
    have hb : exB gl cf [.ite (.cmp .eq (.idx (.var 0) (.var 1)) (.cStr [93]))
        [.ret (.tup [(.tup [(.cStr [116, 97, 107, 101]), (.var 2), (.join (.cStr []) (.var 3))]), (.bin .add (.var 1) (.cInt 1))])]
        [],
      .ite (.cmp .eq (.idx (.var 0) (.var 1)) (.cStr [126]))
        [.asg 1 (.bin .add (.var 1) (.cInt 1)),
         .ite (.cmp .eq (.var 1) (.bi .len [(.var 0)]))
           [.raise 1]
           []]
        [],
      .expr (.app (.var 3) (.idx (.var 0) (.var 1))),
      .asg 1 (.bin .add (.var 1) (.cInt 1))] [.str w, .int (k : Int), .bool ins, .ref σ.length] (σ ++ [.lst (cs.map fun c => .str [c])]) = .ok (.next, [.str w, .int ((k + 2 : Nat) : Int), .bool ins, .ref σ.length]) (σ ++ [.lst ((cs ++ [c]).map fun c => .str [c])]) := by
      refine (exB_skip (idx_test rfl rfl h1 (by omega)) rfl).trans ((exB_into (Γ' := [.str w, .int ((k + 1 : Nat) : Int), .bool ins, .ref σ.length]) (idx_test rfl rfl h1 (by omega)) rfl ((exB_asg (inc_ev (n := 1) rfl)).trans ((exB_skip (end_test rfl rfl h6) rfl).trans exB_nil0))).trans ((exB_expr (evE_appR rfl hr (idx_ev rfl rfl h4 (by omega)) hr (by rw [List.length_map]; unfold roomy; omega))).trans ((exB_asg (inc_ev (n := 1) (k := k + 1) rfl)).trans (exB_nil0.trans ?_))))
      rw [List.map_append, show k + 1 + 1 = k + 2 from rfl]; simp
    refine (while_step ((at_test rfl rfl).trans (by rw [decide_eq_true h3])) hb).trans (ih.trans ?_)
    simp only [List.map_cons, List.append_assoc, List.singleton_append, setText, List.length_cons]
    rw [show k + 2 + (setText es).length + 1 = k + ((setText es).length + 1 + 1) + 1 by omega]
  | (false, c) :: es, cs, k, hf, hd, hl => by
    obtain ⟨h1, h2, h3⟩ := drop_head (show w.drop k = c :: (setText es ++ 93 :: post) from hd)
    obtain ⟨n1, n2⟩ := hf (false, c) List.mem_cons_self rfl
    rw [List.length_cons] at hl
    obtain ⟨Γ, ih⟩ := set_loop hw (ins := ins) es (cs ++ [c]) (k + 1) (fun p hp => hf p (List.mem_cons_of_mem _ hp)) h2 (by rw [List.length_append]; simp only [List.length_cons, List.length_nil]; omega)
    refine ⟨Γ, ?_⟩
    have hr : (σ ++ [Cell.lst (cs.map fun c => .str [c])])[σ.length]? = some (.lst (cs.map fun c => V.str [c])) := List.getElem?_concat_length
    have hb : exB gl cf [.ite (.cmp .eq (.idx (.var 0) (.var 1)) (.cStr [93]))
        [.ret (.tup [(.tup [(.cStr [116, 97, 107, 101]), (.var 2), (.join (.cStr []) (.var 3))]), (.bin .add (.var 1) (.cInt 1))])]
        [],
      .ite (.cmp .eq (.idx (.var 0) (.var 1)) (.cStr [126]))
        [.asg 1 (.bin .add (.var 1) (.cInt 1)),
         .ite (.cmp .eq (.var 1) (.bi .len [(.var 0)]))
           [.raise 1]
           []]
        [],
      .expr (.app (.var 3) (.idx (.var 0) (.var 1))),
      .asg 1 (.bin .add (.var 1) (.cInt 1))] [.str w, .int (k : Int), .bool ins, .ref σ.length] (σ ++ [.lst (cs.map fun c => .str [c])]) = .ok (.next, [.str w, .int ((k + 1 : Nat) : Int), .bool ins, .ref σ.length]) (σ ++ [.lst ((cs ++ [c]).map fun c => .str [c])]) := by
      refine (exB_skip (idx_test rfl rfl h1 (by omega)) (by rw [ne1 n1]; rfl)).trans ((exB_skip (idx_test rfl rfl h1 (by omega)) (by rw [ne1 n2]; rfl)).trans ((exB_expr (evE_appR rfl hr (idx_ev rfl rfl h1 (by omega)) hr (by rw [List.length_map]; unfold roomy; omega))).trans ((exB_asg (inc_ev (n := 1) rfl)).trans (exB_nil0.trans ?_))))
      rw [List.map_append]; simp
    refine (while_step ((at_test rfl rfl).trans (by rw [decide_eq_true h3])) hb).trans (ih.trans ?_)
    simp only [List.map_cons, List.append_assoc, List.singleton_append, setText, List.length_cons]
    rw [show k + 1 + (setText es).length + 1 = k + ((setText es).length + 1) + 1 by omega]

/-- a set behind its bracket -/
noncomputable def setAll (ins : Bool) (es : List (Bool × Nat)) : List Nat := (if ins then [] else [33]) ++ (setText es ++ [93])

theorem call_set (H : HR P) (hw : w.length < 1000000) {ins : Bool} {es : List (Bool × Nat)} {post : List Nat} (hf : setFine es) (hl : es.length < 100000) (h33 : ins = true → (setText es ++ [93]).head? ≠ some 33) (hd : w.drop k = setAll ins es ++ post) :
    ∃ e, callF gl P (d + 1) 16 [.str w, .int (k : Int)] σ = .ok (.tup [(Tree.take ins (es.map (·.2))).v, .int ((k + (setAll ins es).length : Nat) : Int)]) (σ ++ e) := by
  have hk : k < w.length := by
    by_cases hh : k < w.length
    · exact hh
    · rw [List.drop_of_length_le (by omega)] at hd
      have := congrArg List.length hd
      unfold setAll at this
      simp only [List.length_append, List.length_nil, List.length_cons] at this
      omega
  have hc : evE gl (callF gl P d) (.cmp .eq (.slice (.var 0) (some (.var 1)) (some (.bin .add (.var 1) (.cInt 1)))) (.cStr [33])) [.str w, .int (k : Int), .bool true, .undef] σ = .ok (.bool (w[k]? == some 33)) σ := by
    simp only [evE_cNone, evE_cBool, evE_cInt, evE_cStr, evE_var, evE_glob, evE_and, evE_or, evE_not, evE_neg, evE_bin, evE_cmp, evE_cmp2, evE_ite, evE_tup, evE_lst, evE_call, evE_bi, evE_join, evE_idx, evE_slice, evEs_nil, evEs_cons, evO_none, evO_some, getV, List.getElem?_cons_zero, List.getElem?_cons_succ, of_some, bind_ok, asInt_i, vBin_add, cut_at (k := k) (w := w) (σ := σ) (by omega), eq_ss, opt_eq]
  have h0 : w[k]? = (w.drop k).head? := by rw [List.head?_drop]
  have tail : ∀ {q : Nat}, w.drop q = setText es ++ 93 :: post → ∃ Γ, exB gl (callF gl P d) (d_set_at.body.drop 2) [.str w, .int (q : Int), .bool ins, .undef] σ = .ok (.ret (.tup [(Tree.take ins (es.map (·.2))).v, .int ((q + (setText es).length + 1 : Nat) : Int)]), Γ) (σ ++ [.lst ((es.map (·.2)).map fun c => .str [c])]) := fun {q} hq => by
    obtain ⟨Γ, hs⟩ := set_loop (gl := gl) (cf := callF gl P d) (σ := σ) hw (ins := ins) es [] q hf hq (by simp only [List.length_nil]; omega)
    rw [List.nil_append, List.map_nil] at hs
    refine ⟨Γ, (exB_asg (v := .ref σ.length) (σ' := σ ++ [Cell.lst []]) ?_).trans (exB_ret hs)⟩
    simp only [evE_cNone, evE_cBool, evE_cInt, evE_cStr, evE_var, evE_glob, evE_and, evE_or, evE_not, evE_neg, evE_bin, evE_cmp, evE_cmp2, evE_ite, evE_tup, evE_lst, evE_call, evE_bi, evE_join, evE_idx, evE_slice, evEs_nil, evEs_cons, evO_none, evO_some, bind_ok, putL_t (σ := σ) (xs := []) (by simp [roomy])]
  cases ins with
  | true =>
    have hd' : w.drop k = setText es ++ 93 :: post := by rw [hd]; unfold setAll; simp
    obtain ⟨Γ, ht⟩ := tail hd'
    have hne : (w[k]? == some 33) = false := by
      rw [h0, hd', beq_eq_false_iff_ne]
      intro e
      refine h33 rfl ?_
      cases hs : setText es with
      | nil => rw [hs] at e; cases e
      | cons z r => rw [hs] at e; exact e
    refine ⟨[.lst ((es.map (·.2)).map fun c => .str [c])], callF_ret (D := d_set_at) (Γ' := Γ) H.se rfl ((exB_asg evE_cBool).trans ((exB_skip hc (by rw [hne]; rfl)).trans (ht.trans ?_)))⟩
    simp only [setAll, if_true, List.nil_append, List.length_append, List.length_cons, List.length_nil]
    rw [show k + (setText es).length + 1 = k + ((setText es).length + (0 + 1)) by omega]
  | false =>
    have hd' : w.drop k = 33 :: (setText es ++ 93 :: post) := by rw [hd]; unfold setAll; simp
    obtain ⟨g1, g2, _⟩ := drop_head hd'
    obtain ⟨Γ, ht⟩ := tail g2
    have hne : (w[k]? == some 33) = true := by rw [g1]; rfl
    refine ⟨[.lst ((es.map (·.2)).map fun c => .str [c])], callF_ret (D := d_set_at) (Γ' := Γ) H.se rfl ((exB_asg evE_cBool).trans ((exB_into (Γ' := [.str w, .int ((k + 1 : Nat) : Int), .bool false, .undef]) hc (by rw [hne]; rfl) ((exB_asg evE_cBool).trans ((exB_asg (inc_ev (n := 1) rfl)).trans exB_nil0))).trans (ht.trans ?_)))⟩
    simp only [setAll, List.length_append, List.length_cons, List.length_nil]
    rw [show k + 1 + (setText es).length + 1 = k + ((if false = true then [] else [33] : List Nat).length + ((setText es).length + (0 + 1))) by simp; omega]

/-- the text of one take, and its tree -/
inductive TakeT : List Nat → Tree → Prop
  | dot : TakeT [46] (.take false [])
  | wave (c : Nat) : TakeT [126, c] (.take true [c])
  | sign (c : Nat) (h : c ∉ [40, 41, 124, 42, 63, 46, 91, 93, 126]) : TakeT [c] (.take true [c])
  | set (ins : Bool) (es : List (Bool × Nat)) (hf : setFine es) (hl : es.length < 100000) (h33 : ins = true → (setText es ++ [93]).head? ≠ some 33) : TakeT (91 :: setAll ins es) (.take ins (es.map (·.2)))

theorem call_takeAt (H : HR P) (hw : w.length < 1000000) {u post : List Nat} {t : Tree} (ht : TakeT u t) (hd : w.drop k = u ++ post) : ∃ e, callF gl P (d + 2) 17 [.str w, .int (k : Int)] σ = .ok (.tup [t.v, .int ((k + u.length : Nat) : Int)]) (σ ++ e) := by
  have hs : ∀ {c : Nat}, w[k]? = some c → k < w.length → evE gl (callF gl P (d + 1)) (.idx (.var 0) (.var 1)) [.str w, .int (k : Int), .undef] σ = .ok (.str [c]) σ := fun h hk => idx_ev rfl rfl h (by omega)
  have tst : ∀ {c : Nat} {t : List Nat}, evE gl (callF gl P (d + 1)) (.cmp .eq (.var 2) (.cStr t)) [.str w, .int (k : Int), .str [c]] σ = .ok (.bool ([c] == t)) σ := by
    intros
    simp only [evE_cNone, evE_cBool, evE_cInt, evE_cStr, evE_var, evE_glob, evE_and, evE_or, evE_not, evE_neg, evE_bin, evE_cmp, evE_cmp2, evE_ite, evE_tup, evE_lst, evE_call, evE_bi, evE_join, evE_idx, evE_slice, evEs_nil, evEs_cons, evO_none, evO_some, getV, List.getElem?_cons_zero, List.getElem?_cons_succ, of_some, bind_ok, eq_ss]
  cases ht with
  | dot =>
    obtain ⟨h1, h2, h3⟩ := drop_head hd
    refine ⟨[], callF_ret (D := d_take_at) H.ta rfl ((exB_asg (hs h1 h3)).trans ((exB_skip tst rfl).trans (exB_take tst rfl (exB_rets ?_))))⟩
    rw [List.append_nil]
    simp only [List.set_cons_succ, List.set_cons_zero, evE_cNone, evE_cBool, evE_cInt, evE_cStr, evE_var, evE_glob, evE_and, evE_or, evE_not, evE_neg, evE_bin, evE_cmp, evE_cmp2, evE_ite, evE_tup, evE_lst, evE_call, evE_bi, evE_join, evE_idx, evE_slice, evEs_nil, evEs_cons, evO_none, evO_some, getV, List.getElem?_cons_zero, List.getElem?_cons_succ, of_some, bind_ok, vBin_add, tup3, tup2]
    rfl
  | wave c =>
    obtain ⟨h1, h2, h3⟩ := drop_head (show w.drop k = 126 :: (c :: post) from hd)
    obtain ⟨h4, h5, h6⟩ := drop_head h2
    have te : evE gl (callF gl P (d + 1)) (.cmp .eq (.bin .add (.var 1) (.cInt 1)) (.bi .len [(.var 0)])) [.str w, .int (k : Int), .str [126]] σ = .ok (.bool false) σ := by
      simp only [evE_cNone, evE_cBool, evE_cInt, evE_cStr, evE_var, evE_glob, evE_and, evE_or, evE_not, evE_neg, evE_bin, evE_cmp, evE_cmp2, evE_ite, evE_tup, evE_lst, evE_call, evE_bi, evE_join, evE_idx, evE_slice, evEs_nil, evEs_cons, evO_none, evO_some, getV, List.getElem?_cons_zero, List.getElem?_cons_succ, of_some, bind_ok, vBin_add, len_str, eq_ii, beq_eq_false_iff_ne.mpr (show (k : Int) + 1 ≠ (w.length : Int) by omega)]
    have hi : vIdx σ (.str w) (.int ((k : Int) + 1)) = some (.str [c]) := at_idx (k := k + 1) h4 (by omega)
    refine ⟨[], callF_ret (D := d_take_at) H.ta rfl ((exB_asg (hs h1 h3)).trans ((exB_skip tst rfl).trans ((exB_skip tst rfl).trans (exB_take tst rfl ((exB_skip te rfl).trans (exB_rets ?_))))))⟩
    rw [List.append_nil]
    simp only [List.set_cons_succ, List.set_cons_zero, evE_cNone, evE_cBool, evE_cInt, evE_cStr, evE_var, evE_glob, evE_and, evE_or, evE_not, evE_neg, evE_bin, evE_cmp, evE_cmp2, evE_ite, evE_tup, evE_lst, evE_call, evE_bi, evE_join, evE_idx, evE_slice, evEs_nil, evEs_cons, evO_none, evO_some, getV, List.getElem?_cons_zero, List.getElem?_cons_succ, of_some, bind_ok, vBin_add, hi, tup3, tup2]
    rfl
  | sign c hc =>
    obtain ⟨h1, h2, h3⟩ := drop_head hd
    simp only [List.mem_cons, List.not_mem_nil, or_false, not_or] at hc
    obtain ⟨_, _, _, _, _, n6, n7, _, n9⟩ := hc
    refine ⟨[], callF_ret (D := d_take_at) H.ta rfl ((exB_asg (hs h1 h3)).trans ((exB_skip tst (by rw [ne1 n7]; rfl)).trans ((exB_skip tst (by rw [ne1 n6]; rfl)).trans ((exB_skip tst (by rw [ne1 n9]; rfl)).trans (exB_rets ?_)))))⟩
    rw [List.append_nil]
    simp only [List.set_cons_succ, List.set_cons_zero, evE_cNone, evE_cBool, evE_cInt, evE_cStr, evE_var, evE_glob, evE_and, evE_or, evE_not, evE_neg, evE_bin, evE_cmp, evE_cmp2, evE_ite, evE_tup, evE_lst, evE_call, evE_bi, evE_join, evE_idx, evE_slice, evEs_nil, evEs_cons, evO_none, evO_some, getV, List.getElem?_cons_zero, List.getElem?_cons_succ, of_some, bind_ok, vBin_add, tup3, tup2]
    rfl
  | set ins es hf hl h33 =>
    obtain ⟨h1, h2, h3⟩ := drop_head (show w.drop k = 91 :: (setAll ins es ++ post) from hd)
    obtain ⟨e, he⟩ := call_set (gl := gl) (d := d) (σ := σ) H hw hf hl h33 h2
    refine ⟨e, callF_ret (D := d_take_at) H.ta rfl ((exB_asg (hs h1 h3)).trans (exB_take tst rfl (exB_rets ?_)))⟩
    have he' : callF gl P (d + 1) 16 [.str w, .int ((k : Int) + 1)] σ = _ := he
    simp only [List.set_cons_succ, List.set_cons_zero, evE_cNone, evE_cBool, evE_cInt, evE_cStr, evE_var, evE_glob, evE_and, evE_or, evE_not, evE_neg, evE_bin, evE_cmp, evE_cmp2, evE_ite, evE_tup, evE_lst, evE_call, evE_bi, evE_join, evE_idx, evE_slice, evEs_nil, evEs_cons, evO_none, evO_some, getV, List.getElem?_cons_zero, List.getElem?_cons_succ, of_some, bind_ok, vBin_add, he', List.length_cons]
    rw [show k + 1 + (setAll ins es).length = k + ((setAll ins es).length + 1) by omega]
end
end Mine

namespace Mine

noncomputable def rdB : List St := [.asg 4 (.idx (.var 0) (.var 3)),
      .ite (.or (.cmp .eq (.var 4) (.cStr [42])) (.cmp .eq (.var 4) (.cStr [63])))
        [.ite (.not (.var 2))
           [.raise 1]
           [],
         .asg 3 (.call 18 [(.idx (.idx (.var 1) (.neg (.cInt 1))) (.cInt 1)), (.var 0), (.var 3)]),
         .asg 2 (.cBool false)]
        [.ite (.cmp .eq (.var 4) (.cStr [40]))
           [.ite (.cmp .gt (.bi .len [(.var 1)]) (.glob 0))
              [.raise 1]
              [],
            .expr (.app (.var 1) (.lst true [(.lst true []), (.lst true [])])),
            .asg 2 (.cBool false),
            .asg 3 (.bin .add (.var 3) (.cInt 1))]
           [.ite (.cmp .eq (.var 4) (.cStr [41]))
              [.expr (.call 19 [(.var 1)]),
               .asg 2 (.cBool true),
               .asg 3 (.bin .add (.var 3) (.cInt 1))]
              [.ite (.cmp .eq (.var 4) (.cStr [124]))
                 [.expr (.app (.idx (.idx (.var 1) (.neg (.cInt 1))) (.cInt 0)) (.call 14 [(.idx (.idx (.var 1) (.neg (.cInt 1))) (.cInt 1))])),
                  .sto (.idx (.var 1) (.neg (.cInt 1))) (.cInt 1) (.lst true []),
                  .asg 2 (.cBool false),
                  .asg 3 (.bin .add (.var 3) (.cInt 1))]
                 [.ite (.cmp .eq (.var 4) (.cStr [93]))
                    [.raise 1]
                    [.asg 5 (.call 17 [(.var 0), (.var 3)]),
                     .expr (.app (.idx (.idx (.var 1) (.neg (.cInt 1))) (.cInt 1)) (.idx (.var 5) (.cInt 0))),
                     .asg 2 (.cBool true),
                     .asg 3 (.idx (.var 5) (.cInt 1))]]]]]]
noncomputable def rdW : St := .while (.cmp .lt (.var 3) (.bi .len [(.var 0)])) rdB

noncomputable def rep (c : Nat) (t : Tree) (e : Bool) : Tree := if c = 42 then .many t e else .maybe t e

section
variable {gl : List V} {cf : CF} {σ σ' : Sg} {Γ Γ' : Fm} {P : List Def} {d : Nat} {g : Nat} {a b : Ad} {As : List Ad} {x y : List Tree × List Tree} {X : List (List Tree × List Tree)} {w : List Nat} {k : Nat}

theorem call_repeated (H : HR P) {Q : List Tree} {t : Tree} {c : Nat} {q : Nat} (hq : σ[q]? = some (.lst ((Q ++ [t]).map Tree.v))) (hd : t.dep ≤ d) (hw : w.length < 1000000) (hk : w[k]? = some c) (hc : c = 42 ∨ c = 63) (hb : c = 42 → t.bare = false) (hn : Q.length < 1000000) :
    callF gl P (d + 1) 18 [.ref q, .str w, .int (k : Int)] σ = .ok (.int ((k + (if w[k + 1]? = some 33 then 2 else 1) : Nat) : Int)) (σ.set q (.lst ((Q ++ [rep c t (!(w[k + 1]? == some 33))]).map Tree.v))) := by
  have hlt : k < w.length := (List.getElem?_eq_some_iff.mp hk).1
  have hql : q < σ.length := (List.getElem?_eq_some_iff.mp hq).1
  rw [List.map_append] at hq
  replace hq : σ[q]? = some (.lst (Q.map Tree.v ++ [t.v])) := hq
  generalize hee : (!(w[k + 1]? == some 33)) = ee
  have e2 : (2 : Int) = 1 + 1 := rfl
  have s3 : evE gl (callF gl P d) (.cmp .ne (.slice (.var 1) (some (.bin .add (.var 2) (.cInt 1))) (some (.bin .add (.var 2) (.cInt 2)))) (.cStr [33])) [.ref q, .str w, .int (k : Int), .undef, .undef] σ = .ok (.bool ee) σ := by
    have hcut : vCut σ (.str w) (some ((k : Int) + 1)) (some ((k : Int) + 2)) = some (.str ((w[k + 1]?).toList)) := by
      have := cut_at (σ := σ) (w := w) (k := k + 1) (by omega)
      rw [show (((k + 1 : Nat) : Int) + 1) = (k : Int) + 2 by omega] at this
      exact this
    simp only [evE_cNone, evE_cBool, evE_cInt, evE_cStr, evE_var, evE_glob, evE_and, evE_or, evE_not, evE_neg, evE_bin, evE_cmp, evE_cmp2, evE_ite, evE_tup, evE_lst, evE_call, evE_bi, evE_join, evE_idx, evE_slice, evEs_nil, evEs_cons, evO_none, evO_some, getV, List.getElem?_cons_zero, List.getElem?_cons_succ, of_some, bind_ok, asInt_i, vBin_add, hcut, ne_ss, opt_eq, hee]
  have t42 : ∀ {y3 y4 : V} {σ : Sg}, evE gl (callF gl P d) (.cmp .eq (.idx (.var 1) (.var 2)) (.cStr [42])) [.ref q, .str w, .int (k : Int), y3, y4] σ = .ok (.bool ([c] == [42])) σ := idx_test rfl rfl hk (by omega)
  have hl : vIdx σ (.ref q) (.int (-1)) = some t.v := vIdx_last (seq_ref hq) rfl (by simp)
  have tb : evE gl (callF gl P d) (.and (.cmp .eq (.idx (.var 1) (.var 2)) (.cStr [42])) (.call 10 [(.idx (.var 0) (.neg (.cInt 1)))])) [.ref q, .str w, .int (k : Int), .bool ee, .undef] σ = .ok (.bool ([c] == [42] && t.bare)) σ := by
    refine and_bb t42 fun _ => ?_
    simp only [evE_cNone, evE_cBool, evE_cInt, evE_cStr, evE_var, evE_glob, evE_and, evE_or, evE_not, evE_neg, evE_bin, evE_cmp, evE_cmp2, evE_ite, evE_tup, evE_lst, evE_call, evE_bi, evE_join, evE_idx, evE_slice, evEs_nil, evEs_cons, evO_none, evO_some, getV, List.getElem?_cons_zero, List.getElem?_cons_succ, of_some, bind_ok, neg_i, hl, call_bare H.ba d t hd]
  have tb0 : ([c] == [42] && t.bare) = false := by
    rcases hc with rfl | rfl
    · rw [hb rfl]; rfl
    · rfl
  rw [tb0] at tb
  have sp : evE gl (callF gl P d) (.pop (.var 0)) [.ref q, .str w, .int (k : Int), .bool ee, .undef] σ = .ok t.v (σ.set q (.lst (Q.map Tree.v))) := evE_popR rfl hq
  have hq1 : (σ.set q (.lst (Q.map Tree.v)))[q]? = some (.lst (Q.map Tree.v)) := set_eq hql
  have hv4 := getV_t (Γ := [.ref q, .str w, .int (k : Int), .bool ee, t.v]) (i := 4) (t := t) rfl
  have ap : ∀ (nm : List Nat) (u : Tree), u.v = .tup [.str nm, t.v, .bool ee] → evE gl (callF gl P d) (.app (.var 0) (.tup [(.cStr nm), (.var 4), (.var 3)])) [.ref q, .str w, .int (k : Int), .bool ee, t.v] (σ.set q (.lst (Q.map Tree.v))) = .ok .none (σ.set q (.lst ((Q ++ [u]).map Tree.v))) := fun nm u hu => by
    have := evE_appR (gl := gl) (cf := callF gl P d) (Γ := [.ref q, .str w, .int (k : Int), .bool ee, t.v]) (o := .var 0) (x := .tup [(.cStr nm), (.var 4), (.var 3)]) (v := u.v) (σ₁ := σ.set q (.lst (Q.map Tree.v))) rfl hq1 (by
      simp only [evE_cNone, evE_cBool, evE_cInt, evE_cStr, evE_var, evE_glob, evE_and, evE_or, evE_not, evE_neg, evE_bin, evE_cmp, evE_cmp2, evE_ite, evE_tup, evE_lst, evE_call, evE_bi, evE_join, evE_idx, evE_slice, evEs_nil, evEs_cons, evO_none, evO_some, hv4, of_some, bind_ok]
      simp only [getV, List.getElem?_cons_zero, List.getElem?_cons_succ, of_some, bind_ok, tup3, hu]) hq1 (by rw [List.length_map]; unfold roomy; omega)
    rw [this, List.set_set, List.map_append]; rfl
  have fin : exB gl (callF gl P d) (d_repeated.body.drop 4) [.ref q, .str w, .int (k : Int), .bool ee, t.v] (σ.set q (.lst ((Q ++ [rep c t ee]).map Tree.v))) = .ok (.ret (.int ((k + (if w[k + 1]? = some 33 then 2 else 1) : Nat) : Int)), [.ref q, .str w, .int (k : Int), .bool ee, t.v]) (σ.set q (.lst ((Q ++ [rep c t ee]).map Tree.v))) := by
    cases ee with
    | true =>
      have h33 : ¬ w[k + 1]? = some 33 := fun e => by rw [e] at hee; cases hee
      rw [if_neg h33]
      exact exB_take (v := .bool true) rfl rfl (exB_rets (inc_ev (n := 1) rfl))
    | false =>
      have h33 : w[k + 1]? = some 33 := by
        cases ho : w[k + 1]? with
        | none => rw [ho] at hee; cases hee
        | some z => rw [ho] at hee; simp at hee; rw [hee]
      rw [if_pos h33]
      exact (exB_skip (v := .bool false) rfl rfl).trans (exB_rets (inc_ev (n := 2) rfl))
  refine callF_ret (D := d_repeated) H.re rfl ((exB_asg s3).trans ((exB_skip tb rfl).trans ((exB_asg sp).trans (Eq.trans ?_ fin))))
  rcases hc with rfl | rfl
  · exact exB_into (v := .bool true) t42 rfl ((exB_expr (ap [109, 97, 110, 121] (.many t ee) v_many)).trans exB_nil0)
  · exact exB_ite_else (v := .bool false) t42 rfl ((exB_expr (ap [109, 97, 121, 98, 101] (.maybe t ee) v_maybe)).trans exB_nil0)

/-- the reading goes on from one state to another -/
noncomputable def Rd (gl : List V) (cf : CF) (w : List Nat) (k : Nat) (r : Bool) (X : List (List Tree × List Tree)) (k' : Nat) (r' : Bool) (X' : List (List Tree × List Tree)) : Prop :=
  ∀ σ g As y4 y5, GS σ g As X → ∃ σ' As' y4' y5', exS gl cf rdW [.str w, .ref g, .bool r, .int (k : Int), y4, y5] σ = exS gl cf rdW [.str w, .ref g, .bool r', .int (k' : Int), y4', y5'] σ' ∧ GS σ' g As' X'
theorem Rd.refl {r : Bool} : Rd gl cf w k r X k r X := fun σ _ As y4 y5 h => ⟨σ, As, y4, y5, rfl, h⟩
theorem Rd.trans {k1 k2 : Nat} {r r1 r2 : Bool} {X1 X2 : List (List Tree × List Tree)} (h1 : Rd gl cf w k r X k1 r1 X1) (h2 : Rd gl cf w k1 r1 X1 k2 r2 X2) : Rd gl cf w k r X k2 r2 X2 := fun σ g As y4 y5 h => by
  obtain ⟨σ1, As1, z4, z5, e1, g1⟩ := h1 σ g As y4 y5 h
  obtain ⟨σ2, As2, u4, u5, e2, g2⟩ := h2 σ1 g As1 z4 z5 g1
  exact ⟨σ2, As2, u4, u5, e1.trans e2, g2⟩

theorem sg_test {r : Bool} {c : Nat} {t : List Nat} {k : V} {y5 : V} : evE gl cf (.cmp .eq (.var 4) (.cStr t)) [.str w, .ref g, .bool r, k, .str [c], y5] σ = .ok (.bool ([c] == t)) σ := by
  simp only [evE_cNone, evE_cBool, evE_cInt, evE_cStr, evE_var, evE_glob, evE_and, evE_or, evE_not, evE_neg, evE_bin, evE_cmp, evE_cmp2, evE_ite, evE_tup, evE_lst, evE_call, evE_bi, evE_join, evE_idx, evE_slice, evEs_nil, evEs_cons, evO_none, evO_some, getV, List.getElem?_cons_zero, List.getElem?_cons_succ, of_some, bind_ok, eq_ss]

/-- one turn, from what the block does behind the sign -/
theorem rd_turn {r r' : Bool} {c : Nat} {X' : List (List Tree × List Tree)} {k' : Nat} (hw : w.length < 1000000) (hk : w[k]? = some c)
    (h : ∀ σ g As y5, GS σ g As X → ∃ σ' As' y4' y5', exB gl cf (rdB.drop 1) [.str w, .ref g, .bool r, .int (k : Int), .str [c], y5] σ = .ok (.next, [.str w, .ref g, .bool r', .int (k' : Int), y4', y5']) σ' ∧ GS σ' g As' X') : Rd gl cf w k r X k' r' X' := by
  intro σ g As y4 y5 hg
  have hlt : k < w.length := (List.getElem?_eq_some_iff.mp hk).1
  obtain ⟨σ', As', z4, z5, e, hg'⟩ := h σ g As y5 hg
  exact ⟨σ', As', z4, z5, while_step ((at_test rfl rfl).trans (by rw [decide_eq_true hlt])) ((exB_asg (idx_ev rfl rfl hk (by omega))).trans e), hg'⟩

section
variable {r : Bool} {y4 y5 : V} {c : Nat}
theorem rep_test : evE gl cf (.or (.cmp .eq (.var 4) (.cStr [42])) (.cmp .eq (.var 4) (.cStr [63]))) [.str w, .ref g, .bool r, .int (k : Int), .str [c], y5] σ = .ok (.bool (([c] == [42]) || ([c] == [63]))) σ := or_bb sg_test fun _ => sg_test

theorem rd_open (hgl : gl[0]? = some (.int 30)) (hw : w.length < 1000000) (hk : w[k]? = some 40) (hX : X.length ≤ 30) : Rd gl cf w k r X (k + 1) false (([], []) :: X) := by
  refine rd_turn hw hk fun σ g As y5 h => ⟨_, _, .str [40], y5, ?_, h.opened⟩
  have hal : ∀ {As : List Ad} {X : List (List Tree × List Tree)}, All2 σ As X → As.length = X.length := by
    intro As
    induction As with
    | nil => intro X h; cases X with | nil => rfl | cons _ _ => exact h.elim
    | cons a As ih => intro X h; cases X with | nil => exact h.elim | cons _ _ => rw [List.length_cons, List.length_cons, ih h.2]
  have hlen : vBi σ .len [.ref g] = some (.int (X.length : Int)) := by rw [len_ref h.top, List.length_reverse, List.length_map, hal h.all]
  have t30 : evE gl cf (.cmp .gt (.bi .len [(.var 1)]) (.glob 0)) [.str w, .ref g, .bool r, .int (k : Int), .str [40], y5] σ = .ok (.bool false) σ := by
    simp only [evE_cNone, evE_cBool, evE_cInt, evE_cStr, evE_var, evE_glob, evE_and, evE_or, evE_not, evE_neg, evE_bin, evE_cmp, evE_cmp2, evE_ite, evE_tup, evE_lst, evE_call, evE_bi, evE_join, evE_idx, evE_slice, evEs_nil, evEs_cons, evO_none, evO_some, getV, List.getElem?_cons_zero, List.getElem?_cons_succ, of_some, bind_ok, hlen, hgl, gt_ii, decide_eq_false (show ¬ (X.length : Int) > 30 by omega)]
  have E1 := (h.ext [.lst []]).ext [.lst []]
  have E2 := E1.ext [.lst [.ref σ.length, .ref (σ.length + 1)]]
  have hx : evE gl cf (.lst true [(.lst true []), (.lst true [])]) [.str w, .ref g, .bool r, .int (k : Int), .str [40], y5] σ = .ok (.ref (σ.length + 2)) (σ ++ [.lst []] ++ [.lst []] ++ [.lst [.ref σ.length, .ref (σ.length + 1)]]) := by
    have p0 : ∀ {σ : Sg}, putL true [] σ = .ok (.ref σ.length) (σ ++ [.lst []]) := putL_t (by simp [roomy])
    have p2 : ∀ {σ : Sg} {u v : V}, putL true [u, v] σ = .ok (.ref σ.length) (σ ++ [.lst [u, v]]) := putL_t (by simp [roomy])
    simp only [evE_cNone, evE_cBool, evE_cInt, evE_cStr, evE_var, evE_glob, evE_and, evE_or, evE_not, evE_neg, evE_bin, evE_cmp, evE_cmp2, evE_ite, evE_tup, evE_lst, evE_call, evE_bi, evE_join, evE_idx, evE_slice, evEs_nil, evEs_cons, evO_none, evO_some, bind_ok, p0, p2, List.length_append, List.length_cons, List.length_nil]
  refine exB_ite_else rep_test rfl (exB_into sg_test rfl ((exB_skip t30 rfl).trans ((exB_expr (evE_appR rfl h.top hx E2.top ?_)).trans ((exB_asg evE_cBool).trans ((exB_asg (inc_ev (n := 1) rfl)).trans exB_nil0)))))
  rw [List.length_reverse, List.length_map, hal h.all]; unfold roomy; omega
end
end
end Mine

namespace Mine

theorem TakeT.head {u : List Nat} {t : Tree} (h : TakeT u t) : ∃ c r, u = c :: r ∧ c ≠ 42 ∧ c ≠ 63 ∧ c ≠ 40 ∧ c ≠ 41 ∧ c ≠ 124 ∧ c ≠ 93 := by
  cases h with
  | dot => exact ⟨46, [], rfl, by decide, by decide, by decide, by decide, by decide, by decide⟩
  | wave c => exact ⟨126, [c], rfl, by decide, by decide, by decide, by decide, by decide, by decide⟩
  | sign c hc =>
    simp only [List.mem_cons, List.not_mem_nil, or_false, not_or] at hc
    exact ⟨c, [], rfl, hc.2.2.2.1, hc.2.2.2.2.1, hc.1, hc.2.1, hc.2.2.1, hc.2.2.2.2.2.2.2.1⟩
  | set ins es hf hl h33 => exact ⟨91, _, rfl, by decide, by decide, by decide, by decide, by decide, by decide⟩
theorem TakeT.take {u : List Nat} {t : Tree} (h : TakeT u t) : t.bare = false ∧ t.dep = 1 := by
  cases h <;> exact ⟨rfl, dep_take⟩

section
variable {gl : List V} {σ σ' : Sg} {Γ Γ' : Fm} {P : List Def} {d : Nat} {g : Nat} {a b : Ad} {As : List Ad} {x y : List Tree × List Tree} {X : List (List Tree × List Tree)} {w : List Nat} {k : Nat} {r : Bool} {c : Nat}

theorem gs_top (h : GS σ g As (x :: X)) : ∃ a As', As = a :: As' := by
  cases As with
  | nil => exact h.all.elim
  | cons a As' => exact ⟨a, As', rfl⟩

theorem top_pieces {cf : CF} {y5 : V} {r : Bool} (h : GS σ g (a :: As) (x :: X)) : evE gl cf (.idx (.idx (.var 1) (.neg (.cInt 1))) (.cInt 1)) [.str w, .ref g, .bool r, .int (k : Int), .str [c], y5] σ = .ok (.ref a.2.2) σ := by
  have i1 : vIdx σ (.ref a.1) (.int 1) = some (.ref a.2.2) := vIdx_seq 1 (by decide) (seq_ref h.all.1.1) rfl
  simp only [evE_cNone, evE_cBool, evE_cInt, evE_cStr, evE_var, evE_glob, evE_and, evE_or, evE_not, evE_neg, evE_bin, evE_cmp, evE_cmp2, evE_ite, evE_tup, evE_lst, evE_call, evE_bi, evE_join, evE_idx, evE_slice, evEs_nil, evEs_cons, evO_none, evO_some, getV, List.getElem?_cons_zero, List.getElem?_cons_succ, of_some, bind_ok, neg_i, top_last h, i1]
theorem top_rows {cf : CF} {y5 : V} {r : Bool} (h : GS σ g (a :: As) (x :: X)) : evE gl cf (.idx (.idx (.var 1) (.neg (.cInt 1))) (.cInt 0)) [.str w, .ref g, .bool r, .int (k : Int), .str [c], y5] σ = .ok (.ref a.2.1) σ := by
  have i1 : vIdx σ (.ref a.1) (.int 0) = some (.ref a.2.1) := vIdx_seq 0 (by decide) (seq_ref h.all.1.1) rfl
  simp only [evE_cNone, evE_cBool, evE_cInt, evE_cStr, evE_var, evE_glob, evE_and, evE_or, evE_not, evE_neg, evE_bin, evE_cmp, evE_cmp2, evE_ite, evE_tup, evE_lst, evE_call, evE_bi, evE_join, evE_idx, evE_slice, evEs_nil, evEs_cons, evO_none, evO_some, getV, List.getElem?_cons_zero, List.getElem?_cons_succ, of_some, bind_ok, neg_i, top_last h, i1]

theorem rd_take (H : HR P) (hw : w.length < 1000000) {u post : List Nat} {t : Tree} (ht : TakeT u t) (hd : w.drop k = u ++ post) (hx : x.2.length < 1000000) : Rd gl (callF gl P (d + 3)) w k r (x :: X) (k + u.length) true ((x.1, x.2 ++ [t]) :: X) := by
  obtain ⟨c, ur, hu, n1, n2, n3, n4, n5, n6⟩ := ht.head
  obtain ⟨hk, _, hlt⟩ := drop_head (show w.drop k = c :: (ur ++ post) by rw [hd, hu]; rfl)
  refine rd_turn hw hk fun σ g As y5 h => ?_
  obtain ⟨a, As', rfl⟩ := gs_top h
  obtain ⟨e, he⟩ := call_takeAt (gl := gl) (d := d + 1) (σ := σ) H hw ht hd
  have h1 := h.ext e
  refine ⟨_, _, .str [c], .tup [t.v, .int ((k + u.length : Nat) : Int)], ?_, h1.push (x.2 ++ [t])⟩
  have s5 : evE gl (callF gl P (d + 3)) (.call 17 [(.var 0), (.var 3)]) [.str w, .ref g, .bool r, .int (k : Int), .str [c], y5] σ = .ok (.tup [t.v, .int ((k + u.length : Nat) : Int)]) (σ ++ e) := by
    simp only [evE_cNone, evE_cBool, evE_cInt, evE_cStr, evE_var, evE_glob, evE_and, evE_or, evE_not, evE_neg, evE_bin, evE_cmp, evE_cmp2, evE_ite, evE_tup, evE_lst, evE_call, evE_bi, evE_join, evE_idx, evE_slice, evEs_nil, evEs_cons, evO_none, evO_some, getV, List.getElem?_cons_zero, List.getElem?_cons_succ, of_some, bind_ok, he]
  have i0 : evE gl (callF gl P (d + 3)) (.idx (.var 5) (.cInt 0)) [.str w, .ref g, .bool r, .int (k : Int), .str [c], .tup [t.v, .int ((k + u.length : Nat) : Int)]] (σ ++ e) = .ok t.v (σ ++ e) := by
    simp only [evE_cNone, evE_cBool, evE_cInt, evE_cStr, evE_var, evE_glob, evE_and, evE_or, evE_not, evE_neg, evE_bin, evE_cmp, evE_cmp2, evE_ite, evE_tup, evE_lst, evE_call, evE_bi, evE_join, evE_idx, evE_slice, evEs_nil, evEs_cons, evO_none, evO_some, getV, List.getElem?_cons_zero, List.getElem?_cons_succ, of_some, bind_ok, idx_t0]
  refine exB_ite_else rep_test (by rw [ne1 n1, ne1 n2]; rfl) (exB_ite_else sg_test (by rw [ne1 n3]; rfl) (exB_ite_else sg_test (by rw [ne1 n4]; rfl) (exB_ite_else sg_test (by rw [ne1 n5]; rfl) (exB_ite_else sg_test (by rw [ne1 n6]; rfl)
    ((exB_asg s5).trans ((exB_expr (evE_appR (top_pieces h1) h1.all.1.2.2 i0 h1.all.1.2.2 (by rw [List.length_map]; unfold roomy; omega))).trans ((exB_asg evE_cBool).trans ((exB_asg (v := .int ((k + u.length : Nat) : Int)) (tag_1 rfl)).trans ?_))))))))
  rw [List.map_append]; rfl

theorem rd_close (H : HR P) (hw : w.length < 1000000) (hk : w[k]? = some 41) (hx : x.1.length < 1000000) (hy : y.2.length < 1000000) : Rd gl (callF gl P (d + 3)) w k r (x :: y :: X) (k + 1) true ((y.1, y.2 ++ [gt x]) :: X) := by
  refine rd_turn hw hk fun σ g As y5 h => ?_
  obtain ⟨a, As', rfl⟩ := gs_top h
  obtain ⟨b, As'', rfl⟩ : ∃ b As'', As' = b :: As'' := by
    cases As' with
    | nil => exact h.all.2.elim
    | cons b r => exact ⟨b, r, rfl⟩
  obtain ⟨σ', he, hg⟩ := call_closed (gl := gl) (d := d) H h (by unfold roomy; omega) (by unfold roomy; omega)
  refine ⟨σ', _, .str [41], y5, ?_, hg⟩
  have s1 : evE gl (callF gl P (d + 3)) (.call 19 [(.var 1)]) [.str w, .ref g, .bool r, .int (k : Int), .str [41], y5] σ = .ok .none σ' := by
    simp only [evE_cNone, evE_cBool, evE_cInt, evE_cStr, evE_var, evE_glob, evE_and, evE_or, evE_not, evE_neg, evE_bin, evE_cmp, evE_cmp2, evE_ite, evE_tup, evE_lst, evE_call, evE_bi, evE_join, evE_idx, evE_slice, evEs_nil, evEs_cons, evO_none, evO_some, getV, List.getElem?_cons_zero, List.getElem?_cons_succ, of_some, bind_ok, he]
  exact exB_ite_else rep_test rfl (exB_ite_else sg_test rfl (exB_into sg_test rfl ((exB_expr s1).trans ((exB_asg evE_cBool).trans ((exB_asg (inc_ev (n := 1) rfl)).trans exB_nil0)))))

theorem rd_bar (H : HR P) (hw : w.length < 1000000) (hk : w[k]? = some 124) (hx : x.1.length < 1000000) : Rd gl (callF gl P (d + 3)) w k r (x :: X) (k + 1) false ((x.1 ++ [rt x.2], []) :: X) := by
  refine rd_turn hw hk fun σ g As y5 h => ?_
  obtain ⟨a, As', rfl⟩ := gs_top h
  have hr := call_row (gl := gl) (d := d + 2) H h.all.1.2.2
  have h1 := h.alt (x.1 ++ [rt x.2])
  refine ⟨_, _, .str [124], y5, ?_, h1.fresh⟩
  have s1 : evE gl (callF gl P (d + 3)) (.call 14 [(.idx (.idx (.var 1) (.neg (.cInt 1))) (.cInt 1))]) [.str w, .ref g, .bool r, .int (k : Int), .str [124], y5] σ = .ok (rt x.2).v σ := by
    rw [evE_call, evEs_cons, top_pieces h, bind_ok, evEs_nil, bind_ok, bind_ok, hr]
  have s2 := evE_appR (gl := gl) (cf := callF gl P (d + 3)) (top_rows (w := w) (k := k) (c := 124) (y5 := y5) (r := r) h) h.all.1.2.1 s1 h.all.1.2.1 (by rw [List.length_map]; unfold roomy; omega)
  rw [show (x.1.map Tree.v ++ [(rt x.2).v]) = (x.1 ++ [rt x.2]).map Tree.v by rw [List.map_append]; rfl] at s2
  generalize hσ : σ.set a.2.1 (.lst ((x.1 ++ [rt x.2]).map Tree.v)) = σ₁ at h1 s2 ⊢
  have E := h1.ext [.lst []]
  have s3 : exS gl (callF gl P (d + 3)) (.sto (.idx (.var 1) (.neg (.cInt 1))) (.cInt 1) (.lst true [])) [.str w, .ref g, .bool r, .int (k : Int), .str [124], y5] σ₁ = .ok (.next, [.str w, .ref g, .bool r, .int (k : Int), .str [124], y5]) ((σ₁ ++ [Cell.lst []]).set a.1 (.lst [.ref a.2.1, .ref σ₁.length])) := by
    have p0 : putL true [] σ₁ = .ok (.ref σ₁.length) (σ₁ ++ [Cell.lst []]) := putL_t (by simp [roomy])
    have hst : vStore (σ₁ ++ [Cell.lst []]) (.ref a.1) (.int 1) (.ref σ₁.length) = some ((σ₁ ++ [Cell.lst []]).set a.1 (.lst [.ref a.2.1, .ref σ₁.length])) := by
      rw [vStore, E.all.1.1]; rfl
    rw [exS_sto0]
    simp only [evE_cNone, evE_cBool, evE_cInt, evE_cStr, evE_var, evE_glob, evE_and, evE_or, evE_not, evE_neg, evE_bin, evE_cmp, evE_cmp2, evE_ite, evE_tup, evE_lst, evE_call, evE_bi, evE_join, evE_idx, evE_slice, evEs_nil, evEs_cons, evO_none, evO_some, p0, getV, List.getElem?_cons_zero, List.getElem?_cons_succ, of_some, bind_ok, neg_i, top_last E, hst]
    rfl
  exact exB_ite_else rep_test rfl (exB_ite_else sg_test rfl (exB_ite_else sg_test rfl (exB_into sg_test rfl ((exB_expr s2).trans ((exB_next s3).trans ((exB_asg evE_cBool).trans ((exB_asg (inc_ev (n := 1) rfl)).trans exB_nil0)))))))

theorem rd_rep (H : HR P) (hw : w.length < 1000000) {Q : List Tree} {t : Tree} (hk : w[k]? = some c) (hc : c = 42 ∨ c = 63) (hb : c = 42 → t.bare = false) (hd : t.dep ≤ d + 2) (hQ : Q.length < 1000000) :
    Rd gl (callF gl P (d + 3)) w k true ((x.1, Q ++ [t]) :: X) (k + (if w[k + 1]? = some 33 then 2 else 1)) false ((x.1, Q ++ [rep c t (!(w[k + 1]? == some 33))]) :: X) := by
  refine rd_turn hw hk fun σ g As y5 h => ?_
  obtain ⟨a, As', rfl⟩ := gs_top h
  have hr := call_repeated (gl := gl) (d := d + 2) H h.all.1.2.2 hd hw hk hc hb hQ
  refine ⟨_, _, .str [c], y5, ?_, h.push (Q ++ [rep c t (!(w[k + 1]? == some 33))])⟩
  have s1 : evE gl (callF gl P (d + 3)) (.call 18 [(.idx (.idx (.var 1) (.neg (.cInt 1))) (.cInt 1)), (.var 0), (.var 3)]) [.str w, .ref g, .bool true, .int (k : Int), .str [c], y5] σ = .ok (.int ((k + (if w[k + 1]? = some 33 then 2 else 1) : Nat) : Int)) (σ.set a.2.2 (.lst ((Q ++ [rep c t (!(w[k + 1]? == some 33))]).map Tree.v))) := by
    rw [evE_call, evEs_cons, top_pieces h, bind_ok]
    simp only [evE_cNone, evE_cBool, evE_cInt, evE_cStr, evE_var, evE_glob, evE_and, evE_or, evE_not, evE_neg, evE_bin, evE_cmp, evE_cmp2, evE_ite, evE_tup, evE_lst, evE_call, evE_bi, evE_join, evE_idx, evE_slice, evEs_nil, evEs_cons, evO_none, evO_some, getV, List.getElem?_cons_zero, List.getElem?_cons_succ, of_some, bind_ok, hr]
  have t1 : vTrue σ (.bool (([c] == [42]) || ([c] == [63]))) = some true := by rcases hc with rfl | rfl <;> rfl
  have nt : evE gl (callF gl P (d + 3)) (.not (.var 2)) [.str w, .ref g, .bool true, .int (k : Int), .str [c], y5] σ = .ok (.bool false) σ := rfl
  exact exB_into rep_test t1 ((exB_skip nt rfl).trans ((exB_asg s1).trans ((exB_asg evE_cBool).trans exB_nil0)))

/-- a text that reads as one tree. nx: no ! may follow; n: how many groups it opens within one another -/
noncomputable def RdP (gl : List V) (P : List Def) (d : Nat) (u : List Nat) (t : Tree) (r' nx : Bool) (n : Nat) : Prop :=
  ∀ w k post, w.length < 1000000 → w.drop k = u ++ post → (nx = true → post.head? ≠ some 33) → ∀ r x X, X.length + n ≤ 30 → x.2.length < 100000 → Rd gl (callF gl P (d + 3)) w k r (x :: X) (k + u.length) r' ((x.1, x.2 ++ [t]) :: X)

theorem RdP.take (H : HR P) {u : List Nat} {t : Tree} (ht : TakeT u t) : RdP gl P d u t true false 0 := fun _ _ _ hw hd _ _ _ _ _ hx => rd_take H hw ht hd (by omega)

theorem drop_app {u post : List Nat} (h : w.drop k = u ++ post) : w.drop (k + u.length) = post := by
  rw [← List.drop_drop, h, List.drop_left]

theorem RdP.bracket (H : HR P) (hgl : gl[0]? = some (.int 30)) {u : List Nat} {t : Tree} {r' nx : Bool} {n : Nat} (hu : RdP gl P d u t r' nx n) : RdP gl P d (40 :: (u ++ [41])) t true false (n + 1) := fun w k post hw hd _ r x X hX hx => by
  obtain ⟨h1, h2, h3⟩ := drop_head (show w.drop k = 40 :: (u ++ (41 :: post)) by rw [hd]; simp)
  have h4 := drop_app h2
  obtain ⟨h5, h6, h7⟩ := drop_head h4
  have a1 := rd_open (gl := gl) (cf := callF gl P (d + 3)) (r := r) hgl hw h1 (X := x :: X) (by rw [List.length_cons]; omega)
  have a2 := hu w (k + 1) (41 :: post) hw h2 (fun _ e => by cases e) false ([], []) (x :: X) (by rw [List.length_cons]; omega) (by simp)
  have a3 := rd_close (gl := gl) (d := d) (r := r') H hw h5 (x := ([], [] ++ [t])) (y := x) (X := X) (by simp) (by omega)
  have := (a1.trans a2).trans a3
  rw [show k + (40 :: (u ++ [41])).length = k + 1 + u.length + 1 by rw [List.length_cons, List.length_append]; simp only [List.length_cons, List.length_nil]; omega]
  exact this

theorem RdP.rep (H : HR P) {u : List Nat} {t : Tree} {nx : Bool} {n : Nat} (hu : RdP gl P d u t true nx n) (hc : c = 42 ∨ c = 63) (hb : c = 42 → t.bare = false) (hd : t.dep ≤ d + 2) :
    RdP gl P d (u ++ [c]) (Mine.rep c t true) false true n ∧ RdP gl P d (u ++ [c, 33]) (Mine.rep c t false) false false n := by
  constructor
  · intro w k post hw hdr hnx r x X hX hx
    have h1 : w.drop k = u ++ (c :: post) := by rw [hdr]; simp
    obtain ⟨h2, h3, h4⟩ := drop_head (drop_app h1)
    have a1 := hu w k (c :: post) hw h1 (fun _ e => by rcases hc with rfl | rfl <;> cases e) r x X hX hx
    have a2 := rd_rep (gl := gl) (d := d) (x := x) (X := X) H hw (Q := x.2) (t := t) h2 hc hb hd (by omega)
    have hn : ¬ w[k + u.length + 1]? = some 33 := by
      intro e
      rw [← List.head?_drop, h3] at e
      exact hnx rfl e
    have hn' : (!(w[k + u.length + 1]? == some 33)) = true := by rw [beq_eq_false_iff_ne.mpr hn]; rfl
    rw [hn', if_neg hn] at a2
    rw [List.length_append]
    exact a1.trans a2
  · intro w k post hw hdr hnx r x X hX hx
    have h1 : w.drop k = u ++ (c :: 33 :: post) := by rw [hdr]; simp
    obtain ⟨h2, h3, h4⟩ := drop_head (drop_app h1)
    obtain ⟨h5, _, _⟩ := drop_head h3
    have a1 := hu w k (c :: 33 :: post) hw h1 (fun _ e => by rcases hc with rfl | rfl <;> cases e) r x X hX hx
    have a2 := rd_rep (gl := gl) (d := d) (x := x) (X := X) H hw (Q := x.2) (t := t) h2 hc hb hd (by omega)
    rw [h5] at a2
    rw [List.length_append]
    exact a1.trans a2

/-- the whole reading -/
theorem call_read (H : HR P) (hw : w.length < 1000000) {r' : Bool} (h : Rd gl (callF gl P (d + 3)) w 0 false [([], [])] w.length r' [x]) (hx : x.1.length < 1000000) : ∃ σ', callF gl P (d + 4) 20 [.str w] σ = .ok (gt x).v σ' := by
  have p0 : ∀ {σ : Sg}, putL true [] σ = .ok (.ref σ.length) (σ ++ [.lst []]) := putL_t (by simp [roomy])
  have p2 : ∀ {σ : Sg} {u v : V}, putL true [u, v] σ = .ok (.ref σ.length) (σ ++ [.lst [u, v]]) := putL_t (by simp [roomy])
  have p1 : ∀ {σ : Sg} {u : V}, putL true [u] σ = .ok (.ref σ.length) (σ ++ [.lst [u]]) := putL_t (by simp [roomy])
  have s1 : evE gl (callF gl P (d + 3)) (.lst true [(.lst true [(.lst true []), (.lst true [])])]) [.str w, .undef, .undef, .undef, .undef, .undef] σ = .ok (.ref (σ.length + 3)) (σ ++ [.lst []] ++ [.lst []] ++ [.lst [.ref σ.length, .ref (σ.length + 1)]] ++ [.lst [.ref (σ.length + 2)]]) := by
    simp only [evE_cNone, evE_cBool, evE_cInt, evE_cStr, evE_var, evE_glob, evE_and, evE_or, evE_not, evE_neg, evE_bin, evE_cmp, evE_cmp2, evE_ite, evE_tup, evE_lst, evE_call, evE_bi, evE_join, evE_idx, evE_slice, evEs_nil, evEs_cons, evO_none, evO_some, bind_ok, p0, p1, p2, List.length_append, List.length_cons, List.length_nil]
  have hg : GS (σ ++ [Cell.lst []] ++ [Cell.lst []] ++ [Cell.lst [.ref σ.length, .ref (σ.length + 1)]] ++ [Cell.lst [.ref (σ.length + 2)]]) (σ.length + 3) [(σ.length + 2, σ.length, σ.length + 1)] [([], [])] := by
    refine ⟨by simp, ⟨⟨by simp, by simp, by simp⟩, trivial⟩, ?_⟩
    simp only [adrs, List.nodup_cons, List.mem_cons, List.not_mem_nil, or_false, not_or]
    exact ⟨⟨by omega, by omega, by omega⟩, ⟨by omega, by omega⟩, by omega, not_false, List.nodup_nil⟩
  obtain ⟨σ', As', y4, y5, he, hg'⟩ := h _ _ _ .undef .undef hg
  obtain ⟨a, As'', rfl⟩ := gs_top hg'
  have hAs : As'' = [] := by
    cases As'' with
    | nil => rfl
    | cons _ _ => exact hg'.all.2.elim
  subst hAs
  have hend : exS gl (callF gl P (d + 3)) rdW [.str w, .ref (σ.length + 3), .bool r', .int (w.length : Int), y4, y5] σ' = .ok (.next, [.str w, .ref (σ.length + 3), .bool r', .int (w.length : Int), y4, y5]) σ' :=
    while_end ((at_test rfl rfl).trans (by rw [decide_eq_false (Nat.lt_irrefl _)]))
  have hlen : vBi σ' .len [.ref (σ.length + 3)] = some (.int 1) := by rw [len_ref hg'.top]; rfl
  have i0 : vIdx σ' (.ref (σ.length + 3)) (.int 0) = some (.ref a.1) := vIdx_seq 0 (by decide) (seq_ref hg'.top) rfl
  have hgr := call_group (gl := gl) (d := d + 1) H hg'.all.1 (by unfold roomy; omega)
  refine ⟨σ', callF_ret (D := d_read) H.rd rfl ((exB_asg s1).trans ((exB_asg evE_cBool).trans ((exB_asg evE_cInt).trans ((exB_next (he.trans hend)).trans ((exB_skip (v := .bool false) (σ' := σ') ?_ rfl).trans (exB_rets (σ' := σ') ?_))))))⟩
  · simp only [evE_cNone, evE_cBool, evE_cInt, evE_cStr, evE_var, evE_glob, evE_and, evE_or, evE_not, evE_neg, evE_bin, evE_cmp, evE_cmp2, evE_ite, evE_tup, evE_lst, evE_call, evE_bi, evE_join, evE_idx, evE_slice, evEs_nil, evEs_cons, evO_none, evO_some, getV, List.getElem?_cons_zero, List.getElem?_cons_succ, of_some, bind_ok, hlen, gt_ii]; rfl
  · simp only [evE_cNone, evE_cBool, evE_cInt, evE_cStr, evE_var, evE_glob, evE_and, evE_or, evE_not, evE_neg, evE_bin, evE_cmp, evE_cmp2, evE_ite, evE_tup, evE_lst, evE_call, evE_bi, evE_join, evE_idx, evE_slice, evEs_nil, evEs_cons, evO_none, evO_some, getV, List.getElem?_cons_zero, List.getElem?_cons_succ, of_some, bind_ok, i0, hgr]
end
end Mine

namespace Mine

/-! ### _law_alike -/
noncomputable def dat : Nat → V → Prop
  | 0, _ => False
  | _ + 1, .str _ => True
  | _ + 1, .bool _ => True
  | n + 1, .tup xs => xs.length ≤ 100000 ∧ ∀ x ∈ xs, dat n x
  | _ + 1, _ => False
theorem dat_tup {n : Nat} {xs : List V} (h1 : xs.length ≤ 100000) (h2 : ∀ x ∈ xs, dat n x) : dat (n + 1) (.tup xs) := ⟨h1, h2⟩
theorem dat_mono : ∀ {n m : Nat} {v : V}, n ≤ m → dat n v → dat m v
  | 0, _, _, _, h => h.elim
  | n + 1, 0, _, hm, _ => by omega
  | n + 1, m + 1, v, hm, h => by
    cases v with
    | str _ => trivial
    | bool _ => trivial
    | tup xs => exact ⟨h.1, fun x hx => dat_mono (by omega) (h.2 x hx)⟩
    | _ => exact h.elim
theorem dat_take {b : Bool} {s : List Nat} : dat 2 (Tree.take b s).v := by
  refine dat_tup (by simp) fun x hx => ?_
  simp only [List.mem_cons, List.not_mem_nil, or_false] at hx
  rcases hx with rfl | rfl | rfl <;> trivial
theorem dat_one {n : Nat} {nm : List Nat} {e : Bool} {v : V} (h : dat (n + 1) v) : dat (n + 2) (.tup [.str nm, v, .bool e]) := by
  refine dat_tup (by simp) fun x hx => ?_
  simp only [List.mem_cons, List.not_mem_nil, or_false] at hx
  rcases hx with rfl | rfl | rfl
  · trivial
  · exact h
  · trivial
theorem dat_seq {n : Nat} {nm : List Nat} {ts : List Tree} (hl : ts.length ≤ 100000) (h : ∀ t ∈ ts, dat n t.v) : dat (n + 2) (.tup [.str nm, .tup (ts.map Tree.v)]) := by
  refine dat_tup (by simp) fun x hx => ?_
  simp only [List.mem_cons, List.not_mem_nil, or_false] at hx
  rcases hx with rfl | rfl
  · trivial
  · refine dat_tup (by rw [List.length_map]; exact hl) fun y hy => ?_
    obtain ⟨t, ht, rfl⟩ := List.mem_map.mp hy
    exact h t ht

section
variable {gl : List V} {cf : CF} {σ σ' : Sg} {Γ Γ' : Fm} {P : List Def} {d : Nat}

theorem bi_isTup {xs : List V} : vBi σ .isTup [.tup xs] = some (.bool true) := rfl
theorem bi_isTup_s {xs : List Nat} : vBi σ .isTup [.str xs] = some (.bool false) := rfl
theorem bi_isTup_b {b : Bool} : vBi σ .isTup [.bool b] = some (.bool false) := rfl
theorem bi_isBool_s {xs : List Nat} : vBi σ .isBool [.str xs] = some (.bool false) := rfl
theorem bi_isStr {xs : List Nat} : vBi σ .isStr [.str xs] = some (.bool true) := rfl
theorem in_s {c : Nat} {L : List Nat} : vCmp σ .isin (.str [c]) (.str L) = some (L.contains c) := rfl

theorem call_alike (H : P[21]? = some d_l_alike) : ∀ (d : Nat) (v : V), dat d v → callF gl P d 21 [v, v] σ = .ok (.bool true) σ
  | 0, _, h => h.elim
  | d + 1, v, h => by
    cases v with
    | str s =>
      refine callF_ret (D := d_l_alike) (Γ' := [.str s, .str s]) H rfl ((exB_skip (v := .bool false) (σ' := σ) ?_ rfl).trans ((exB_skip (v := .bool false) (σ' := σ) ?_ rfl).trans (exB_rets (σ' := σ) (and_bb (p := true) (q := true) ?_ fun _ => ?_))))
      all_goals show evE gl _ _ [.str s, .str s] σ = _
      · simp only [evE_cNone, evE_cBool, evE_cInt, evE_cStr, evE_var, evE_glob, evE_and, evE_or, evE_not, evE_neg, evE_bin, evE_cmp, evE_cmp2, evE_ite, evE_tup, evE_lst, evE_call, evE_bi, evE_join, evE_idx, evE_slice, evEs_nil, evEs_cons, evO_none, evO_some, getV, List.getElem?_cons_zero, List.getElem?_cons_succ, of_some, bind_ok, bi_isTup_s]
      · simp only [evE_cNone, evE_cBool, evE_cInt, evE_cStr, evE_var, evE_glob, evE_and, evE_or, evE_not, evE_neg, evE_bin, evE_cmp, evE_cmp2, evE_ite, evE_tup, evE_lst, evE_call, evE_bi, evE_join, evE_idx, evE_slice, evEs_nil, evEs_cons, evO_none, evO_some, getV, List.getElem?_cons_zero, List.getElem?_cons_succ, of_some, bind_ok, bi_isBool_s]
      · simp only [evE_cNone, evE_cBool, evE_cInt, evE_cStr, evE_var, evE_glob, evE_and, evE_or, evE_not, evE_neg, evE_bin, evE_cmp, evE_cmp2, evE_ite, evE_tup, evE_lst, evE_call, evE_bi, evE_join, evE_idx, evE_slice, evEs_nil, evEs_cons, evO_none, evO_some, getV, List.getElem?_cons_zero, List.getElem?_cons_succ, of_some, bind_ok, bi_isStr]
      · simp only [evE_cNone, evE_cBool, evE_cInt, evE_cStr, evE_var, evE_glob, evE_and, evE_or, evE_not, evE_neg, evE_bin, evE_cmp, evE_cmp2, evE_ite, evE_tup, evE_lst, evE_call, evE_bi, evE_join, evE_idx, evE_slice, evEs_nil, evEs_cons, evO_none, evO_some, getV, List.getElem?_cons_zero, List.getElem?_cons_succ, of_some, bind_ok, eq_ss, beq_self_eq_true]
    | bool b =>
      refine callF_ret (D := d_l_alike) (Γ' := [.bool b, .bool b]) H rfl ((exB_skip (v := .bool false) (σ' := σ) ?_ rfl).trans (exB_take (v := .bool true) (σ' := σ) ?_ rfl (exB_rets (σ' := σ) (and_bb (p := true) (q := true) ?_ fun _ => ?_))))
      all_goals show evE gl _ _ [.bool b, .bool b] σ = _
      · simp only [evE_cNone, evE_cBool, evE_cInt, evE_cStr, evE_var, evE_glob, evE_and, evE_or, evE_not, evE_neg, evE_bin, evE_cmp, evE_cmp2, evE_ite, evE_tup, evE_lst, evE_call, evE_bi, evE_join, evE_idx, evE_slice, evEs_nil, evEs_cons, evO_none, evO_some, getV, List.getElem?_cons_zero, List.getElem?_cons_succ, of_some, bind_ok, bi_isTup_b]
      · simp only [evE_cNone, evE_cBool, evE_cInt, evE_cStr, evE_var, evE_glob, evE_and, evE_or, evE_not, evE_neg, evE_bin, evE_cmp, evE_cmp2, evE_ite, evE_tup, evE_lst, evE_call, evE_bi, evE_join, evE_idx, evE_slice, evEs_nil, evEs_cons, evO_none, evO_some, getV, List.getElem?_cons_zero, List.getElem?_cons_succ, of_some, bind_ok, bi_isBool]
      · simp only [evE_cNone, evE_cBool, evE_cInt, evE_cStr, evE_var, evE_glob, evE_and, evE_or, evE_not, evE_neg, evE_bin, evE_cmp, evE_cmp2, evE_ite, evE_tup, evE_lst, evE_call, evE_bi, evE_join, evE_idx, evE_slice, evEs_nil, evEs_cons, evO_none, evO_some, getV, List.getElem?_cons_zero, List.getElem?_cons_succ, of_some, bind_ok, bi_isBool]
      · simp only [evE_cNone, evE_cBool, evE_cInt, evE_cStr, evE_var, evE_glob, evE_and, evE_or, evE_not, evE_neg, evE_bin, evE_cmp, evE_cmp2, evE_ite, evE_tup, evE_lst, evE_call, evE_bi, evE_join, evE_idx, evE_slice, evEs_nil, evEs_cons, evO_none, evO_some, getV, List.getElem?_cons_zero, List.getElem?_cons_succ, of_some, bind_ok, eq_bb, beq_self_eq_true]
    | tup xs =>
      have hl := h.1
      have hc : evE gl (callF gl P d) (.comp false (.call 21 [(.idx (.var 0) (.var 2)), (.idx (.var 1) (.var 2))]) .rng1 (.bi .len [(.var 1)]) .cNone none) [.tup xs, .tup xs] σ = .ok (.lst ((List.range xs.length).map fun _ => V.bool true)) σ := by
        refine evE_compM (x := .int (xs.length : Int)) (y := .none) (σ₁ := σ) ?_ evE_cNone (items_rng (by omega)) (fun j hj => ?_) (by rw [List.length_range]; unfold roomy; omega)
        · simp only [evE_cNone, evE_cBool, evE_cInt, evE_cStr, evE_var, evE_glob, evE_and, evE_or, evE_not, evE_neg, evE_bin, evE_cmp, evE_cmp2, evE_ite, evE_tup, evE_lst, evE_call, evE_bi, evE_join, evE_idx, evE_slice, evEs_nil, evEs_cons, evO_none, evO_some, getV, List.getElem?_cons_zero, List.getElem?_cons_succ, of_some, bind_ok, bi_len_t]
        · have hj' : j < xs.length := List.mem_range.mp hj
          have hi : vIdx σ (.tup xs) (.int (j : Int)) = some xs[j] := vIdx_seq j (by omega) rfl (List.getElem?_eq_getElem hj')
          have ih := call_alike H d xs[j] (h.2 _ (List.getElem_mem hj'))
          simp only [List.cons_append, List.nil_append, evE_cNone, evE_cBool, evE_cInt, evE_cStr, evE_var, evE_glob, evE_and, evE_or, evE_not, evE_neg, evE_bin, evE_cmp, evE_cmp2, evE_ite, evE_tup, evE_lst, evE_call, evE_bi, evE_join, evE_idx, evE_slice, evEs_nil, evEs_cons, evO_none, evO_some, getV, List.getElem?_cons_zero, List.getElem?_cons_succ, of_some, bind_ok, hi, ih]
      refine callF_ret (D := d_l_alike) (Γ' := [.tup xs, .tup xs]) H rfl (exB_take (v := .bool true) (σ' := σ) ?_ rfl ((exB_skip (v := .bool false) (σ' := σ) (or_bb (p := false) (q := false) ?_ fun _ => ?_) rfl).trans (exB_rets (σ' := σ) ?_)))
      all_goals show evE gl _ _ [.tup xs, .tup xs] σ = _
      · simp only [evE_cNone, evE_cBool, evE_cInt, evE_cStr, evE_var, evE_glob, evE_and, evE_or, evE_not, evE_neg, evE_bin, evE_cmp, evE_cmp2, evE_ite, evE_tup, evE_lst, evE_call, evE_bi, evE_join, evE_idx, evE_slice, evEs_nil, evEs_cons, evO_none, evO_some, getV, List.getElem?_cons_zero, List.getElem?_cons_succ, of_some, bind_ok, bi_isTup]
      · simp only [evE_cNone, evE_cBool, evE_cInt, evE_cStr, evE_var, evE_glob, evE_and, evE_or, evE_not, evE_neg, evE_bin, evE_cmp, evE_cmp2, evE_ite, evE_tup, evE_lst, evE_call, evE_bi, evE_join, evE_idx, evE_slice, evEs_nil, evEs_cons, evO_none, evO_some, getV, List.getElem?_cons_zero, List.getElem?_cons_succ, of_some, bind_ok, bi_isTup, true_b, Bool.not_true]
      · simp only [evE_cNone, evE_cBool, evE_cInt, evE_cStr, evE_var, evE_glob, evE_and, evE_or, evE_not, evE_neg, evE_bin, evE_cmp, evE_cmp2, evE_ite, evE_tup, evE_lst, evE_call, evE_bi, evE_join, evE_idx, evE_slice, evEs_nil, evEs_cons, evO_none, evO_some, getV, List.getElem?_cons_zero, List.getElem?_cons_succ, of_some, bind_ok, bi_len_t, ne_ii, beq_self_eq_true, Bool.not_true]
      · rw [evE_bi, evEs_cons, hc, bind_ok, evEs_nil, bind_ok, bind_ok, bi_all, of_some]; simp
    | _ => exact h.elim

/-! ### the pieces -/
/-- a piece of the pattern and its tree -/
structure PieceOk (free : Bool) (u : List Nat) (t : Tree) : Prop where
  t : TakeT u t
  len : u.length ≤ 300
  head : free = false → u.head? ≠ some 33

end
end Mine

namespace Mine

noncomputable def special : List Nat := [40, 41, 124, 42, 63, 46, 91, 93, 126, 33]
noncomputable def esc (c : Nat) : List Nat := if special.contains c then [126, c] else [c]
noncomputable def takeShow (b : Bool) (s : List Nat) : List Nat :=
  if (b && s.length == 1) = true then s.flatMap esc else if (!b && s == []) = true then [46] else 91 :: ((if b then [] else [33]) ++ (s.flatMap esc ++ [93]))
noncomputable def brkIf (b : Bool) (u : List Nat) : List Nat := if b then 40 :: (u ++ [41]) else u
/-- rows and picks; picks; all but takes -/
noncomputable def h1 : Tree → Bool
  | .row _ => true
  | .pick _ => true
  | _ => false
noncomputable def h2 : Tree → Bool
  | .pick _ => true
  | _ => false
noncomputable def h3 : Tree → Bool
  | .take _ _ => false
  | _ => true
noncomputable def rp (c : Nat) (e : Bool) : List Nat := if e then [c] else [c, 33]
mutual
noncomputable def Tree.show : Tree → List Nat
  | .take b s => takeShow b s
  | .row ts => Tree.showR ts
  | .pick ts => Tree.showP ts
  | .maybe t e => brkIf (h3 t) t.show ++ rp 63 e
  | .many t e => brkIf (h3 t) t.show ++ rp 42 e
noncomputable def Tree.showR : List Tree → List Nat
  | [] => []
  | t :: r => brkIf (h1 t) t.show ++ Tree.showR r
noncomputable def Tree.showP : List Tree → List Nat
  | [] => []
  | t :: r => brkIf (h2 t) t.show ++ (match r with | [] => [] | r => 124 :: Tree.showP r)
end
theorem show_take {b : Bool} {s : List Nat} : (Tree.take b s).show = takeShow b s := by rw [Tree.show]
theorem show_row {ts : List Tree} : (Tree.row ts).show = Tree.showR ts := by rw [Tree.show]
theorem show_pick {ts : List Tree} : (Tree.pick ts).show = Tree.showP ts := by rw [Tree.show]
theorem show_maybe {t : Tree} {e : Bool} : (Tree.maybe t e).show = brkIf (h3 t) t.show ++ rp 63 e := by rw [Tree.show]
theorem show_many {t : Tree} {e : Bool} : (Tree.many t e).show = brkIf (h3 t) t.show ++ rp 42 e := by rw [Tree.show]
theorem showR_nil : Tree.showR [] = [] := by rw [Tree.showR]
theorem showR_cons {t : Tree} {r : List Tree} : Tree.showR (t :: r) = brkIf (h1 t) t.show ++ Tree.showR r := by rw [Tree.showR]
theorem showP_one {t : Tree} : Tree.showP [t] = brkIf (h2 t) t.show := by rw [Tree.showP]; simp
theorem showP_cons {t u : Tree} {r : List Tree} : Tree.showP (t :: u :: r) = brkIf (h2 t) t.show ++ 124 :: Tree.showP (u :: r) := by
  rw [Tree.showP]
  intro e; cases e

theorem brkIf_len {b : Bool} {u : List Nat} : (brkIf b u).length ≤ u.length + 2 := by unfold brkIf; split <;> simp
theorem rp_len {c : Nat} {e : Bool} : (rp c e).length ≤ 2 := by unfold rp; split <;> simp
theorem esc_len {c : Nat} : (esc c).length ≤ 2 := by unfold esc; split <;> simp
theorem flat_esc (s : List Nat) : (s.flatMap esc).length ≤ 2 * s.length := by
  induction s with
  | nil => simp
  | cons c r ih => rw [List.flatMap_cons, List.length_append, List.length_cons]; have := esc_len (c := c); omega
theorem takeShow_len {b : Bool} {s : List Nat} : (takeShow b s).length ≤ 2 * s.length + 3 := by
  have := flat_esc s
  unfold takeShow
  split
  · omega
  · split
    · simp
    · rw [List.length_cons, List.length_append, List.length_append]
      have : (if b = true then [] else [33] : List Nat).length ≤ 1 := by split <;> simp
      simp only [List.length_cons, List.length_nil]; omega

mutual
/-- the length of what is shown -/
theorem show_len : ∀ (t : Tree), t.Ok → t.show.length + 10 ≤ 300 * t.nod
  | .take b s, h => by
    rw [Tree.Ok] at h; rw [show_take, nod_take]
    have := takeShow_len (b := b) (s := s); have := h.1; omega
  | .row ts, h => by rw [Tree.Ok] at h; rw [show_row, nod_row]; have := showR_len ts h.2; omega
  | .pick ts, h => by rw [Tree.Ok] at h; rw [show_pick, nod_pick]; have := showP_len ts h.2; omega
  | .maybe t e, h => by
    rw [Tree.Ok] at h; rw [show_maybe, nod_maybe, List.length_append]
    have := show_len t h; have := brkIf_len (b := h3 t) (u := t.show); have := rp_len (c := 63) (e := e); omega
  | .many t e, h => by
    rw [Tree.Ok] at h; rw [show_many, nod_many, List.length_append]
    have := show_len t h.1; have := brkIf_len (b := h3 t) (u := t.show); have := rp_len (c := 42) (e := e); omega
theorem showR_len : ∀ (ts : List Tree), Tree.Oks ts → (Tree.showR ts).length ≤ 300 * Tree.nods ts
  | [], _ => by rw [showR_nil]; simp
  | t :: r, h => by
    rw [Tree.Oks] at h; rw [showR_cons, Tree.nods, List.length_append]
    have := show_len t h.1; have := showR_len r h.2; have := brkIf_len (b := h1 t) (u := t.show); omega
theorem showP_len : ∀ (ts : List Tree), Tree.Oks ts → (Tree.showP ts).length ≤ 300 * Tree.nods ts
  | [], _ => by rw [Tree.showP]; simp
  | [t], h => by
    rw [Tree.Oks] at h; rw [showP_one, Tree.nods]
    have := show_len t h.1; have := brkIf_len (b := h2 t) (u := t.show); omega
  | t :: u :: r, h => by
    rw [Tree.Oks] at h; rw [showP_cons, Tree.nods, List.length_append, List.length_cons]
    have := show_len t h.1; have := showP_len (u :: r) h.2; have := brkIf_len (b := h2 t) (u := t.show); omega
end
end Mine

namespace Mine

/-- the marks of a set -/
noncomputable def marked (s : List Nat) : List (Bool × Nat) := s.map fun c => (special.contains c, c)
theorem marked_text : ∀ (s : List Nat), setText (marked s) = s.flatMap esc
  | [] => rfl
  | c :: r => by
    have h := marked_text r
    rw [List.flatMap_cons, ← h, esc, marked, List.map_cons]
    cases special.contains c <;> rfl
theorem marked_snd (s : List Nat) : (marked s).map (·.2) = s := by
  unfold marked; rw [List.map_map]; exact List.map_id s
theorem special_no {c x : Nat} (h : special.contains c = false) (hx : x ∈ special) : c ≠ x := fun e => by
  rw [e, List.contains_iff_mem.mpr hx] at h; cases h
theorem take_text {b : Bool} {s : List Nat} (hs : s.length ≤ 100) : TakeT (takeShow b s) (.take b s) ∧ (takeShow b s).head? ≠ some 33 := by
  unfold takeShow
  split
  · rename_i h
    obtain ⟨hb, hl⟩ := Bool.and_eq_true_iff.mp h
    obtain ⟨c, rfl⟩ := List.length_eq_one_iff.mp (beq_iff_eq.mp hl)
    rw [hb, List.flatMap_cons, List.flatMap_nil, List.append_nil, esc]
    cases hc : special.contains c with
    | true => exact ⟨.wave c, (by intro e; cases e)⟩
    | false =>
      refine ⟨.sign c fun hm => special_no hc (x := c) ?_ rfl, fun e => special_no hc (x := 33) (by decide) (by injection e)⟩
      simp only [List.mem_cons, List.not_mem_nil, or_false] at hm
      rcases hm with rfl | rfl | rfl | rfl | rfl | rfl | rfl | rfl | rfl <;> decide
  · split
    · rename_i h
      obtain ⟨hb, hl⟩ := Bool.and_eq_true_iff.mp h
      have hb' : b = false := by cases b <;> first | rfl | cases hb
      have hs' : s = [] := by cases s with | nil => rfl | cons _ _ => cases hl
      rw [hb', hs']
      exact ⟨.dot, (by intro e; cases e)⟩
    · refine ⟨?_, (by intro e; cases e)⟩
      have := TakeT.set b (marked s) (fun p hp he => ?_) (by unfold marked; rw [List.length_map]; omega) (fun _ => ?_)
      · rw [marked_snd, setAll, marked_text] at this; exact this
      · obtain ⟨c, _, rfl⟩ := List.mem_map.mp hp
        exact ⟨special_no he (by decide), special_no he (by decide)⟩
      · cases s with
        | nil => intro e; cases e
        | cons c r =>
          intro e
          rw [marked, List.map_cons] at e
          cases hc : special.contains c with
          | true => rw [hc] at e; cases e
          | false => rw [hc] at e; exact special_no hc (x := 33) (by decide) (by injection e)

section
variable {gl : List V} {P : List Def} {d : Nat}

/-- a text that reads as one piece, and starts as no ! -/
structure Pc (gl : List V) (P : List Def) (d : Nat) (u : List Nat) (t : Tree) (n : Nat) : Prop where
  rd : ∃ r, RdP gl P d u t r true n
  ne : u ≠ []
  hd : u.head? ≠ some 33
/-- a text that reads as the whole of a group -/
noncomputable def RG (gl : List V) (P : List Def) (d : Nat) (u : List Nat) (t : Tree) (n : Nat) : Prop :=
  ∀ w k post, w.length < 1000000 → w.drop k = u ++ post → post.head? ≠ some 33 → ∀ r X, X.length + n ≤ 30 → ∃ r' x', Rd gl (callF gl P (d + 3)) w k r (([], []) :: X) (k + u.length) r' (x' :: X) ∧ gt x' = t ∧ x'.1.length < 100000

theorem RdP.up {u : List Nat} {t : Tree} {r nx : Bool} {n m : Nat} (h : RdP gl P d u t r nx n) (hm : n ≤ m) : RdP gl P d u t r nx m := fun w k post hw hd hn r x X hX hx => h w k post hw hd hn r x X (by omega) hx
theorem RdP.any {u : List Nat} {t : Tree} {r nx : Bool} {n : Nat} (h : RdP gl P d u t r nx n) : RdP gl P d u t r true n := fun w k post hw hd hn => h w k post hw hd fun _ => hn rfl

theorem head_app {u v : List Nat} (h : u ≠ []) (hd : u.head? ≠ some 33) : (u ++ v).head? ≠ some 33 := by
  cases u with
  | nil => exact (h rfl).elim
  | cons c r => exact hd

theorem RG.bracket (H : HR P) (hgl : gl[0]? = some (.int 30)) {u : List Nat} {t : Tree} {n : Nat} (hu : RG gl P d u t n) : RdP gl P d (40 :: (u ++ [41])) t true false (n + 1) := fun w k post hw hd _ r x X hX hx => by
  obtain ⟨h1, h2, h3⟩ := drop_head (show w.drop k = 40 :: (u ++ (41 :: post)) by rw [hd]; simp)
  have h4 := drop_app h2
  obtain ⟨h5, h6, h7⟩ := drop_head h4
  have a1 := rd_open (gl := gl) (cf := callF gl P (d + 3)) (r := r) hgl hw h1 (X := x :: X) (by rw [List.length_cons]; omega)
  obtain ⟨r', x', a2, e, hl⟩ := hu w (k + 1) (41 :: post) hw h2 (fun e => by cases e) false (x :: X) (by rw [List.length_cons]; omega)
  have a3 := rd_close (gl := gl) (d := d) (r := r') H hw h5 (x := x') (y := x) (X := X) (by omega) (by omega)
  rw [e] at a3
  rw [show k + (40 :: (u ++ [41])).length = k + 1 + u.length + 1 by rw [List.length_cons, List.length_append]; simp only [List.length_cons, List.length_nil]; omega]
  exact (a1.trans a2).trans a3
theorem RG.pc (H : HR P) (hgl : gl[0]? = some (.int 30)) {u : List Nat} {t : Tree} {n : Nat} (hu : RG gl P d u t n) : Pc gl P d (40 :: (u ++ [41])) t (n + 1) :=
  ⟨⟨true, (hu.bracket H hgl).any⟩, (by intro e; cases e), (by intro e; cases e)⟩

/-- pieces one behind another -/
theorem pcs_rd {n : Nat} : ∀ (l : List (List Nat × Tree)), (∀ p ∈ l, Pc gl P d p.1 p.2 n) → ∀ w k post, w.length < 1000000 → w.drop k = l.flatMap (·.1) ++ post → post.head? ≠ some 33 → ∀ r (x : List Tree × List Tree) X, X.length + n ≤ 30 → x.2.length + l.length < 100000 →
    ∃ r', Rd gl (callF gl P (d + 3)) w k r (x :: X) (k + (l.flatMap (·.1)).length) r' ((x.1, x.2 ++ l.map (·.2)) :: X)
  | [], _, w, k, post, _, _, _, r, x, X, _, _ => ⟨r, by simp only [List.flatMap_nil, List.length_nil, Nat.add_zero, List.map_nil, List.append_nil]; exact Rd.refl⟩
  | p :: l, h, w, k, post, hw, hd, hp, r, x, X, hX, hx => by
    rw [List.length_cons] at hx
    obtain ⟨⟨r1, h1⟩, hne, hhd⟩ := h p List.mem_cons_self
    rw [List.flatMap_cons, List.append_assoc] at hd
    have hnext : (l.flatMap (·.1) ++ post).head? ≠ some 33 := by
      cases l with
      | nil => exact hp
      | cons q l' =>
        rw [List.flatMap_cons, List.append_assoc]
        have := h q (List.mem_cons_of_mem _ List.mem_cons_self)
        exact head_app this.ne this.hd
    have a1 := h1 w k _ hw hd (fun _ => hnext) r x X hX (by omega)
    obtain ⟨r', a2⟩ := pcs_rd l (fun q hq => h q (List.mem_cons_of_mem _ hq)) w (k + p.1.length) post hw (drop_app hd) hp r1 (x.1, x.2 ++ [p.2]) X hX (by show (x.2 ++ [p.2]).length + l.length < 100000; rw [List.length_append]; simp only [List.length_cons, List.length_nil]; omega)
    refine ⟨r', ?_⟩
    have := a1.trans a2
    rw [List.flatMap_cons, List.length_append, ← Nat.add_assoc, List.map_cons]
    rw [show ((x.1, x.2 ++ [p.2]) : List Tree × List Tree).2 ++ l.map (·.2) = x.2 ++ p.2 :: l.map (·.2) by simp] at this
    exact this
theorem RG.pcs {n : Nat} (l : List (List Nat × Tree)) (h : ∀ p ∈ l, Pc gl P d p.1 p.2 n) (hl : l.length < 10000) : RG gl P d (l.flatMap (·.1)) (rt (l.map (·.2))) n := fun w k post hw hd hp r X hX => by
  obtain ⟨r', a⟩ := pcs_rd l h w k post hw hd hp r ([], []) X hX (by simp only [List.length_nil]; omega)
  exact ⟨r', _, a, rfl, by simp⟩
theorem Pc.rg {u : List Nat} {t : Tree} {n : Nat} (h : Pc gl P d u t n) : RG gl P d u t n := by
  have := RG.pcs [(u, t)] (fun p hp => by rw [List.mem_singleton.mp hp]; exact h) (by simp)
  simp only [List.flatMap_cons, List.flatMap_nil, List.append_nil] at this
  exact this
theorem Pc.up {u : List Nat} {t : Tree} {n m : Nat} (h : Pc gl P d u t n) (hm : n ≤ m) : Pc gl P d u t m := ⟨let ⟨r, q⟩ := h.rd; ⟨r, q.up hm⟩, h.ne, h.hd⟩
theorem RG.up {u : List Nat} {t : Tree} {n m : Nat} (h : RG gl P d u t n) (hm : n ≤ m) : RG gl P d u t m := fun w k post hw hd hp r X hX => h w k post hw hd hp r X (by omega)
theorem Pc.take (H : HR P) {u : List Nat} {t : Tree} (h : TakeT u t) (hh : u.head? ≠ some 33) : Pc gl P d u t 0 := ⟨⟨true, (RdP.take H h).any⟩, (by obtain ⟨c, r, e, _⟩ := h.head; rw [e]; intro x; cases x), hh⟩

/-- a repeat behind a piece that is ready -/
theorem Pc.rep (H : HR P) {u : List Nat} {t : Tree} {nx : Bool} {n c : Nat} {e : Bool} (hu : RdP gl P d u t true nx n) (hne : u ≠ []) (hh : u.head? ≠ some 33) (hc : c = 42 ∨ c = 63) (hb : c = 42 → t.bare = false) (hd : t.dep ≤ d + 2) : Pc gl P d (u ++ rp c e) (Mine.rep c t e) n := by
  have h := hu.rep H hc hb hd
  refine ⟨⟨false, ?_⟩, by intro x; exact hne (List.append_eq_nil_iff.mp x).1, head_app hne hh⟩
  cases e with
  | true => exact h.1.any
  | false => exact h.2.any

/-- the alternatives of a pick: each part reads as the pieces of one row -/
noncomputable def Alt (gl : List V) (P : List Def) (d : Nat) (u : List Nat) (t : Tree) (n : Nat) : Prop :=
  ∀ w k post, w.length < 1000000 → w.drop k = u ++ post → post.head? ≠ some 33 → ∀ r a X, X.length + n ≤ 30 → ∃ r' Q, Rd gl (callF gl P (d + 3)) w k r ((a, []) :: X) (k + u.length) r' ((a, Q) :: X) ∧ rt Q = t
theorem Alt.pcs {n : Nat} (l : List (List Nat × Tree)) (h : ∀ p ∈ l, Pc gl P d p.1 p.2 n) (hl : l.length < 10000) : Alt gl P d (l.flatMap (·.1)) (rt (l.map (·.2))) n := fun w k post hw hd hp r a X hX => by
  obtain ⟨r', b⟩ := pcs_rd l h w k post hw hd hp r (a, []) X hX (by simp only [List.length_nil]; omega)
  exact ⟨r', _, b, rfl⟩
theorem Alt.pc {u : List Nat} {t : Tree} {n : Nat} (h : Pc gl P d u t n) : Alt gl P d u t n := by
  have := Alt.pcs [(u, t)] (fun p hp => by rw [List.mem_singleton.mp hp]; exact h) (by simp)
  simp only [List.flatMap_cons, List.flatMap_nil, List.append_nil] at this
  exact this

noncomputable def barred : List (List Nat) → List Nat
  | [] => []
  | [u] => u
  | u :: r => u ++ 124 :: barred r

theorem alts_rd (H : HR P) {n : Nat} : ∀ (l : List (List Nat × Tree)), l ≠ [] → (∀ p ∈ l, Alt gl P d p.1 p.2 n) → ∀ w k post, w.length < 1000000 → w.drop k = barred (l.map (·.1)) ++ post → post.head? ≠ some 33 → ∀ r (a : List Tree) X, X.length + n ≤ 30 → a.length + l.length < 100000 →
    ∃ r' A Q, Rd gl (callF gl P (d + 3)) w k r ((a, []) :: X) (k + (barred (l.map (·.1))).length) r' ((A, Q) :: X) ∧ A ++ [rt Q] = a ++ l.map (·.2) ∧ A.length + 1 = a.length + l.length
  | [], h0, _, _, _, _, _, _, _, _, _, _, _, _ => (h0 rfl).elim
  | [p], _, h, w, k, post, hw, hd, hp, r, a, X, hX, ha => by
    obtain ⟨r', Q, b, e⟩ := h p List.mem_cons_self w k post hw hd hp r a X hX
    exact ⟨r', a, Q, b, by rw [e]; rfl, by simp⟩
  | p :: q :: l, _, h, w, k, post, hw, hd, hp, r, a, X, hX, ha => by
    have hd' : w.drop k = p.1 ++ (124 :: (barred ((q :: l).map (·.1)) ++ post)) := by rw [hd]; simp [barred]
    obtain ⟨r1, Q, b1, e1⟩ := h p List.mem_cons_self w k _ hw hd' (fun e => by cases e) r a X hX
    obtain ⟨k1, k2, _⟩ := drop_head (drop_app hd')
    rw [List.length_cons, List.length_cons] at ha
    have b2 := rd_bar (gl := gl) (d := d) (r := r1) (x := (a, Q)) (X := X) H hw k1 (by show a.length < 1000000; omega)
    obtain ⟨r', A, Q', b3, e3, hl3⟩ := alts_rd H (q :: l) (by intro x; cases x) (fun y hy => h y (List.mem_cons_of_mem _ hy)) w _ post hw k2 hp false (a ++ [rt Q]) X hX (by rw [List.length_append, List.length_cons]; simp only [List.length_cons, List.length_nil]; omega)
    refine ⟨r', A, Q', ?_, by rw [e3, e1]; simp, by rw [hl3, List.length_append]; simp only [List.length_cons, List.length_nil]; omega⟩
    have := (b1.trans b2).trans b3
    rw [show k + (barred ((p :: q :: l).map (·.1))).length = k + p.1.length + 1 + (barred ((q :: l).map (·.1))).length by
      show k + (p.1 ++ 124 :: barred ((q :: l).map (·.1))).length = _
      rw [List.length_append, List.length_cons]; omega]
    exact this
theorem RG.alts (H : HR P) {n : Nat} (l : List (List Nat × Tree)) (h2 : 2 ≤ l.length) (h : ∀ p ∈ l, Alt gl P d p.1 p.2 n) (hl : l.length < 10000) : RG gl P d (barred (l.map (·.1))) (.pick (l.map (·.2))) n := fun w k post hw hd hp r X hX => by
  obtain ⟨r', A, Q, b, e, hlen⟩ := alts_rd H l (by intro x; rw [x] at h2; simp at h2) h w k post hw hd hp r [] X hX (by simp only [List.length_nil]; omega)
  simp only [List.length_nil, Nat.zero_add] at hlen
  refine ⟨r', (A, Q), b, ?_, by show A.length < 100000; omega⟩
  cases A with
  | nil => simp only [List.length_nil] at hlen; omega
  | cons z zs =>
    show Tree.pick ((z :: zs) ++ [rt Q]) = _
    rw [e, List.nil_append]

theorem showR_flat (ts : List Tree) : Tree.showR ts = (ts.map fun t => (brkIf (h1 t) t.show, t)).flatMap (·.1) := by
  induction ts with
  | nil => rw [showR_nil]; rfl
  | cons t r ih => rw [showR_cons, ih]; rfl
theorem showP_bar : ∀ (ts : List Tree), Tree.showP ts = barred ((ts.map fun t => (brkIf (h2 t) t.show, t)).map (·.1))
  | [] => by rw [Tree.showP]; rfl
  | [t] => by rw [showP_one]; rfl
  | t :: u :: r => by rw [showP_cons, showP_bar (u :: r)]; rfl

theorem snd_map {f : Tree → List Nat} (ts : List Tree) : (ts.map fun t => (f t, t)).map (·.2) = ts := by rw [List.map_map]; exact List.map_id ts

/-- what is shown reads as the tree it is shown from -/
theorem show_rd (H : HR P) (hgl : gl[0]? = some (.int 30)) : ∀ (m : Nat) (t : Tree), t.dep ≤ m → t.dep ≤ d + 2 → t.Ok → RG gl P d t.show t (t.dep - 1) ∧ Pc gl P d (brkIf (h1 t) t.show) t t.dep ∧ (∃ nx, RdP gl P d (brkIf (h3 t) t.show) t true nx t.dep ∧ brkIf (h3 t) t.show ≠ [] ∧ (brkIf (h3 t) t.show).head? ≠ some 33) ∧ Alt gl P d (brkIf (h2 t) t.show) t t.dep
  | 0, t, hm, _, _ => by have := dep_pos t; omega
  | m + 1, t, hm, hdd, ok => by
    -- from a group's text to the four forms, for rows and picks
    have ofRG : h1 t = true → h3 t = true → RG gl P d t.show t (t.dep - 1) → Pc gl P d (brkIf (h1 t) t.show) t t.dep ∧ (∃ nx, RdP gl P d (brkIf (h3 t) t.show) t true nx t.dep ∧ brkIf (h3 t) t.show ≠ [] ∧ (brkIf (h3 t) t.show).head? ≠ some 33) := fun e1 e3 h => by
      have hp := dep_pos t
      have hb := h.bracket H hgl
      rw [show t.dep - 1 + 1 = t.dep by omega] at hb
      rw [e1, e3]
      exact ⟨⟨⟨true, hb.any⟩, (by intro x; cases x), (by intro x; cases x)⟩, false, hb, (by intro x; cases x), (by intro x; cases x)⟩
    cases t with
    | take b s =>
      rw [Tree.Ok] at ok
      obtain ⟨h, hh⟩ := take_text (b := b) ok.1
      have hp : Pc gl P d (Tree.take b s).show (.take b s) 0 := by rw [show_take]; exact Pc.take H h hh
      refine ⟨hp.rg.up (Nat.zero_le _), hp.up (Nat.zero_le _), ⟨false, ?_, hp.ne, hp.hd⟩, Alt.pc (hp.up (Nat.zero_le _))⟩
      show RdP gl P d (Tree.take b s).show _ true false _
      rw [show_take]
      exact (RdP.take H h).up (Nat.zero_le _)
    | row ts =>
      obtain ⟨⟨ok1, ok2⟩, ok3⟩ := ok_row.mp ok
      have ih : ∀ u ∈ ts, Pc gl P d (brkIf (h1 u) u.show) u ((Tree.row ts).dep - 1) := fun u hu => by
        have hdu := dep_mem hu
        rw [dep_row] at hm hdd ⊢
        exact (show_rd H hgl m u (by omega) (by omega) (ok3 u hu)).2.1.up (by omega)
      have ha : ∀ p ∈ ts.map (fun t => (brkIf (h1 t) t.show, t)), Pc gl P d p.1 p.2 ((Tree.row ts).dep - 1) := fun p hp => by
        obtain ⟨u, hu, rfl⟩ := List.mem_map.mp hp; exact ih u hu
      have hrg : RG gl P d (Tree.row ts).show (.row ts) ((Tree.row ts).dep - 1) := by
        have := RG.pcs _ ha (by rw [List.length_map]; omega)
        rw [← showR_flat, snd_map, rt_other ok1] at this
        rw [show_row]; exact this
      obtain ⟨g1, g2⟩ := ofRG rfl rfl hrg
      refine ⟨hrg, g1, g2, ?_⟩
      have := Alt.pcs _ ha (by rw [List.length_map]; omega)
      rw [← showR_flat, snd_map, rt_other ok1] at this
      show Alt gl P d (Tree.row ts).show _ _
      rw [show_row]
      exact fun w k post hw hd hp r a X hX => this w k post hw hd hp r a X (by omega)
    | pick ts =>
      obtain ⟨⟨ok1, ok2⟩, ok3⟩ := ok_pick.mp ok
      have ha : ∀ p ∈ ts.map (fun t => (brkIf (h2 t) t.show, t)), Alt gl P d p.1 p.2 ((Tree.pick ts).dep - 1) := fun p hp => by
        obtain ⟨u, hu, rfl⟩ := List.mem_map.mp hp
        have hdu := dep_mem hu
        rw [dep_pick] at hm hdd ⊢
        have := (show_rd H hgl m u (by omega) (by omega) (ok3 u hu)).2.2.2
        exact fun w k post hw hd hp r a X hX => this w k post hw hd hp r a X (by omega)
      have hrg : RG gl P d (Tree.pick ts).show (.pick ts) ((Tree.pick ts).dep - 1) := by
        have := RG.alts H _ (by rw [List.length_map]; exact ok1) ha (by rw [List.length_map]; omega)
        rw [← showP_bar, snd_map] at this
        rw [show_pick]; exact this
      obtain ⟨g1, g2⟩ := ofRG rfl rfl hrg
      exact ⟨hrg, g1, g2, Alt.pc g1⟩
    | maybe t e =>
      rw [Tree.Ok] at ok
      rw [dep_maybe] at hm hdd
      obtain ⟨nx, c1, c2, c3⟩ := (show_rd H hgl m t (by omega) (by omega) ok).2.2.1
      have hp : Pc gl P d (Tree.maybe t e).show (.maybe t e) t.dep := by
        rw [show_maybe]
        exact Pc.rep H (c := 63) (e := e) c1 c2 c3 (.inr rfl) (fun x => by cases x) (by omega)
      have hrg : RG gl P d (Tree.maybe t e).show (.maybe t e) ((Tree.maybe t e).dep - 1) := by rw [dep_maybe]; exact hp.rg
      have hb := hrg.bracket H hgl
      rw [dep_maybe, show t.dep + 1 - 1 + 1 = t.dep + 1 by omega] at hb
      refine ⟨hrg, hp.up (by rw [dep_maybe]; omega), ⟨false, by rw [dep_maybe]; exact hb, (by intro x; cases x), (by intro x; cases x)⟩, Alt.pc (hp.up (by rw [dep_maybe]; omega))⟩
    | many t e =>
      rw [Tree.Ok] at ok
      rw [dep_many] at hm hdd
      obtain ⟨nx, c1, c2, c3⟩ := (show_rd H hgl m t (by omega) (by omega) ok.1).2.2.1
      have hp : Pc gl P d (Tree.many t e).show (.many t e) t.dep := by
        rw [show_many]
        exact Pc.rep H (c := 42) (e := e) c1 c2 c3 (.inl rfl) (fun _ => ok.2) (by omega)
      have hrg : RG gl P d (Tree.many t e).show (.many t e) ((Tree.many t e).dep - 1) := by rw [dep_many]; exact hp.rg
      have hb := hrg.bracket H hgl
      rw [dep_many, show t.dep + 1 - 1 + 1 = t.dep + 1 by omega] at hb
      refine ⟨hrg, hp.up (by rw [dep_many]; omega), ⟨false, by rw [dep_many]; exact hb, (by intro x; cases x), (by intro x; cases x)⟩, Alt.pc (hp.up (by rw [dep_many]; omega))⟩

/-- a whole text read -/
theorem read_RG (H : HR P) {u : List Nat} {t : Tree} {n : Nat} {σ : Sg} (h : RG gl P d u t n) (hn : n ≤ 30) (hu : u.length < 1000000) : ∃ σ', callF gl P (d + 4) 20 [.str u] σ = .ok t.v σ' := by
  obtain ⟨r', x', a, e, hl⟩ := h u 0 [] hu (by simp) (by intro x; cases x) false [] (by simp only [List.length_nil]; omega)
  rw [Nat.zero_add] at a
  obtain ⟨σ', hr⟩ := call_read (gl := gl) (d := d) (σ := σ) H hu a (by omega)
  exact ⟨σ', by rw [hr, e]⟩
end
end Mine

namespace Mine

noncomputable def dHeld (k : Nat) : Def := ⟨2, 2,
  [.ite (.cmp .isin (.idx (.var 0) (.cInt 0)) (.var 1))
     [.ret (.bin .add (.bin .add (.cStr [40]) (.call k [(.var 0)])) (.cStr [41]))]
     [],
   .ret (.call k [(.var 0)])]⟩
noncomputable def tagOf : Tree → List Nat
  | .take _ _ => [116, 97, 107, 101]
  | .row _ => [114, 111, 119]
  | .pick _ => [112, 105, 99, 107]
  | .maybe _ _ => [109, 97, 121, 98, 101]
  | .many _ _ => [109, 97, 110, 121]

theorem joinS_len (sep : List Nat) : ∀ (l : List (List Nat)), (l.map fun x => x.length + sep.length).sum ≤ (joinS sep l).length + sep.length
  | [] => by simp
  | [x] => by simp [joinS]
  | x :: y :: r => by
    have h := joinS_len sep (y :: r)
    have e : joinS sep (x :: y :: r) = x ++ sep ++ joinS sep (y :: r) := rfl
    rw [e, List.map_cons, List.sum_cons, List.length_append, List.length_append]; omega
theorem showP_join : ∀ (ts : List Tree), Tree.showP ts = joinS [124] (ts.map fun t => brkIf (h2 t) t.show)
  | [] => by rw [Tree.showP]; rfl
  | [t] => by rw [showP_one]; rfl
  | t :: u :: r => by
    rw [showP_cons, showP_join (u :: r)]
    show _ = brkIf (h2 t) t.show ++ [124] ++ joinS [124] ((u :: r).map fun t => brkIf (h2 t) t.show)
    simp
theorem showR_join (ts : List Tree) : Tree.showR ts = joinS [] (ts.map fun t => brkIf (h1 t) t.show) := by
  rw [joinS_nil]
  induction ts with
  | nil => rw [showR_nil]; rfl
  | cons t r ih => rw [showR_cons, ih]; rfl
structure HW (P : List Def) : Prop where
  s : HS P
  pl : P[29]? = some d_plain
  ts : P[30]? = some d_take_shown
  he : P[31]? = some (dHeld 32)
  sh : P[32]? = some d_shown
  mr : P[33]? = some d_l_mark
  wi : P[34]? = some (dHeld 35)
  ls : P[35]? = some d_l_shown

section
variable {gl : List V} {cf : CF} {σ : Sg} {Γ : Fm} {P : List Def} {d : Nat}

theorem vJoin_gen {α : Type} {l : List α} {g : α → List Nat} {sep : List Nat} (hn : (joinS sep (l.map g)).length + sep.length ≤ roomy) : vJoin σ (.str sep) (.lst (l.map fun x => V.str (g x))) = some (.str (joinS sep (l.map g))) := by
  show ((strsV (l.map fun x => V.str (g x))).bind fun l => if (l.map fun x => x.length + sep.length).sum ≤ roomy then some (V.str (joinS sep l)) else none) = _
  rw [strsV_map, Option.bind_some, if_pos (Nat.le_trans (joinS_len sep _) hn)]

theorem idx_tag (t : Tree) : vIdx σ t.v (.int 0) = some (.str (tagOf t)) := by cases t <;> exact idx_t0
theorem tag_test {i : Nat} {t : Tree} {w : List Nat} (h : Γ[i]? = some t.v) : evE gl cf (.cmp .eq (.idx (.var i) (.cInt 0)) (.cStr w)) Γ σ = .ok (.bool (tagOf t == w)) σ := by
  simp only [evE_cNone, evE_cBool, evE_cInt, evE_cStr, evE_var, evE_glob, evE_and, evE_or, evE_not, evE_neg, evE_bin, evE_cmp, evE_cmp2, evE_ite, evE_tup, evE_lst, evE_call, evE_bi, evE_join, evE_idx, evE_slice, evEs_nil, evEs_cons, evO_none, evO_some, getV_t h, of_some, bind_ok, idx_tag, eq_ss]

theorem call_heldG {f k : Nat} (h : P[f]? = some (dHeld k)) {t : Tree} (hsh : callF gl P d k [t.v] σ = .ok (.str t.show) σ) {kinds : V} {b : Bool} (hk : ∃ ks, kinds = .tup ks ∨ kinds = .lst ks) (hb : vIn σ (.str (tagOf t)) kinds = some b) (hl : t.show.length ≤ 1000000) :
    callF gl P (d + 1) f [t.v, kinds] σ = .ok (.str (brkIf b t.show)) σ := by
  have hv0 := getV_t (Γ := [t.v, kinds]) (i := 0) (t := t) rfl
  have hv1 : getV [t.v, kinds] 1 = some kinds := by obtain ⟨ks, rfl | rfl⟩ := hk <;> rfl
  have t1 : evE gl (callF gl P d) (.cmp .isin (.idx (.var 0) (.cInt 0)) (.var 1)) [t.v, kinds] σ = .ok (.bool b) σ := by
    simp only [evE_cNone, evE_cBool, evE_cInt, evE_cStr, evE_var, evE_glob, evE_and, evE_or, evE_not, evE_neg, evE_bin, evE_cmp, evE_cmp2, evE_ite, evE_tup, evE_lst, evE_call, evE_bi, evE_join, evE_idx, evE_slice, evEs_nil, evEs_cons, evO_none, evO_some, hv0, hv1, of_some, bind_ok, idx_tag, show vCmp σ .isin (.str (tagOf t)) kinds = some b from hb]
  have s1 : evE gl (callF gl P d) (.call k [(.var 0)]) [t.v, kinds] σ = .ok (.str t.show) σ := by
    simp only [evE_cNone, evE_cBool, evE_cInt, evE_cStr, evE_var, evE_glob, evE_and, evE_or, evE_not, evE_neg, evE_bin, evE_cmp, evE_cmp2, evE_ite, evE_tup, evE_lst, evE_call, evE_bi, evE_join, evE_idx, evE_slice, evEs_nil, evEs_cons, evO_none, evO_some, hv0, of_some, bind_ok, hsh]
  refine callF_ret (D := dHeld k) (Γ' := [t.v, kinds]) h rfl ?_
  cases b with
  | true =>
    refine exB_take t1 rfl (exB_rets (σ' := σ) ?_)
    show evE gl _ _ [t.v, kinds] σ = _
    rw [evE_bin, evE_bin, evE_cStr, bind_ok, s1, bind_ok, vBin_addS (by simp only [List.length_cons, List.length_nil]; unfold roomy; omega), of_some, bind_ok, evE_cStr, bind_ok, vBin_addS (by rw [List.length_append]; simp only [List.length_cons, List.length_nil]; unfold roomy; omega), of_some]
    rfl
  | false => exact (exB_skip t1 rfl).trans (exB_rets s1)

theorem in_kinds1 (t : Tree) (b : Bool) : vIn σ (.str (tagOf t)) (if b then .tup [.str [114, 111, 119], .str [112, 105, 99, 107]] else .lst [.str [114, 111, 119], .str [112, 105, 99, 107]]) = some (h1 t) := by
  cases b <;> cases t <;> rfl
theorem in_kinds2 (t : Tree) (b : Bool) : vIn σ (.str (tagOf t)) (if b then .tup [.str [112, 105, 99, 107]] else .lst [.str [112, 105, 99, 107]]) = some (h2 t) := by
  cases b <;> cases t <;> rfl
theorem in_kinds3 (t : Tree) : vIn σ (.str (tagOf t)) (.tup [.str [114, 111, 119], .str [112, 105, 99, 107], .str [109, 97, 121, 98, 101], .str [109, 97, 110, 121]]) = some (h3 t) := by cases t <;> rfl
theorem in_kinds3' (t : Tree) : vIn σ (.str (tagOf t)) (.lst [.str [114, 111, 119], .str [112, 105, 99, 107], .str [109, 97, 110, 121], .str [109, 97, 121, 98, 101]]) = some (h3 t) := by cases t <;> rfl

theorem call_plain (H : HW P) (hgl : gl[1]? = some (.str special)) (c : Nat) : callF gl P (d + 1) 29 [.str [c]] σ = .ok (.str (esc c)) σ := by
  have t1 : evE gl (callF gl P d) (.cmp .isin (.var 0) (.glob 1)) [.str [c]] σ = .ok (.bool (special.contains c)) σ := by
    simp only [evE_cNone, evE_cBool, evE_cInt, evE_cStr, evE_var, evE_glob, evE_and, evE_or, evE_not, evE_neg, evE_bin, evE_cmp, evE_cmp2, evE_ite, evE_tup, evE_lst, evE_call, evE_bi, evE_join, evE_idx, evE_slice, evEs_nil, evEs_cons, evO_none, evO_some, getV, List.getElem?_cons_zero, of_some, bind_ok, hgl, in_s]
  refine callF_ret (D := d_plain) (Γ' := [.str [c]]) H.pl rfl ?_
  rw [esc]
  cases hb : special.contains c with
  | true =>
    rw [hb] at t1
    refine exB_take t1 rfl (exB_rets (σ' := σ) ?_)
    show evE gl _ _ [.str [c]] σ = _
    simp only [evE_cNone, evE_cBool, evE_cInt, evE_cStr, evE_var, evE_glob, evE_and, evE_or, evE_not, evE_neg, evE_bin, evE_cmp, evE_cmp2, evE_ite, evE_tup, evE_lst, evE_call, evE_bi, evE_join, evE_idx, evE_slice, evEs_nil, evEs_cons, evO_none, evO_some, getV, List.getElem?_cons_zero, of_some, bind_ok, vBin_addS (a := [126]) (b := [c]) (σ := σ) (by simp [roomy])]
    rfl
  | false => rw [hb] at t1; exact (exB_skip t1 rfl).trans (exB_rets rfl)

theorem bracketed_set {s : List Nat} {b : Bool} (hs : s.length ≤ 1000) {pre : List Nat} (hp : pre = if b then [91] else [91, 33]) : ∃ z, vBin σ .add (.str pre) (.str (s.flatMap esc)) = some (.str z) ∧ vBin σ .add (.str z) (.str [93]) = some (.str (91 :: ((if b then [] else [33]) ++ (s.flatMap esc ++ [93])))) := by
  have hf := flat_esc s
  have hpl : pre.length ≤ 2 := by rw [hp]; cases b <;> simp
  refine ⟨pre ++ s.flatMap esc, vBin_addS (by unfold roomy; omega), ?_⟩
  rw [vBin_addS (by rw [List.length_append]; simp only [List.length_cons, List.length_nil]; unfold roomy; omega), hp]
  cases b <;> simp

theorem call_takeShown (H : HW P) (hgl : gl[1]? = some (.str special)) (b : Bool) (s : List Nat) (hs : s.length ≤ 1000) : callF gl P (d + 2) 30 [.bool b, .str s] σ = .ok (.str (takeShow b s)) σ := by
  have t1 : evE gl (callF gl P (d + 1)) (.and (.var 0) (.cmp .eq (.bi .len [(.var 1)]) (.cInt 1))) [.bool b, .str s, .undef] σ = .ok (.bool (b && s.length == 1)) σ := by
    refine and_bb rfl fun _ => ?_
    simp only [evE_cNone, evE_cBool, evE_cInt, evE_cStr, evE_var, evE_glob, evE_and, evE_or, evE_not, evE_neg, evE_bin, evE_cmp, evE_cmp2, evE_ite, evE_tup, evE_lst, evE_call, evE_bi, evE_join, evE_idx, evE_slice, evEs_nil, evEs_cons, evO_none, evO_some, getV, List.getElem?_cons_zero, List.getElem?_cons_succ, of_some, bind_ok, bi_len_s, eq_ii]
    congr 2
    by_cases h : s.length = 1
    · rw [h]; rfl
    · rw [beq_eq_false_iff_ne.mpr h, beq_eq_false_iff_ne.mpr (by omega)]
  have t2 : evE gl (callF gl P (d + 1)) (.and (.not (.var 0)) (.cmp .eq (.var 1) (.cStr []))) [.bool b, .str s, .undef] σ = .ok (.bool (!b && s == [])) σ := by
    refine and_bb (not_bb rfl) fun _ => ?_
    simp only [evE_cNone, evE_cBool, evE_cInt, evE_cStr, evE_var, evE_glob, evE_and, evE_or, evE_not, evE_neg, evE_bin, evE_cmp, evE_cmp2, evE_ite, evE_tup, evE_lst, evE_call, evE_bi, evE_join, evE_idx, evE_slice, evEs_nil, evEs_cons, evO_none, evO_some, getV, List.getElem?_cons_zero, List.getElem?_cons_succ, of_some, bind_ok, eq_ss]
  unfold takeShow
  cases h1 : (b && s.length == 1) with
  | true =>
    rw [h1] at t1
    obtain ⟨hb, hl⟩ := Bool.and_eq_true_iff.mp h1
    obtain ⟨c, rfl⟩ := List.length_eq_one_iff.mp (beq_iff_eq.mp hl)
    refine callF_ret (D := d_take_shown) (Γ' := [.bool b, .str [c], .undef]) H.ts rfl (exB_take t1 rfl (exB_rets (σ' := σ) ?_))
    show evE gl _ _ [.bool b, .str [c], .undef] σ = _
    simp only [evE_cNone, evE_cBool, evE_cInt, evE_cStr, evE_var, evE_glob, evE_and, evE_or, evE_not, evE_neg, evE_bin, evE_cmp, evE_cmp2, evE_ite, evE_tup, evE_lst, evE_call, evE_bi, evE_join, evE_idx, evE_slice, evEs_nil, evEs_cons, evO_none, evO_some, getV, List.getElem?_cons_zero, List.getElem?_cons_succ, of_some, bind_ok, call_plain H hgl, if_true, List.flatMap_cons, List.flatMap_nil, List.append_nil]
  | false =>
  rw [h1] at t1
  cases h2 : (!b && s == []) with
  | true =>
    rw [h2] at t2
    exact callF_ret (D := d_take_shown) (Γ' := [.bool b, .str s, .undef]) H.ts rfl ((exB_skip t1 rfl).trans (exB_take t2 rfl (exB_rets (σ' := σ) evE_cStr)))
  | false =>
    rw [h2] at t2
    have hc : evE gl (callF gl P (d + 1)) (.comp false (.call 29 [(.var 3)]) .val (.var 1) .cNone none) [.bool b, .str s, .undef] σ = .ok (.lst (s.map fun c => V.str (esc c))) σ := by
      refine evE_compM (h := fun c => V.str [c]) (x := .str s) (y := .none) (σ₁ := σ) rfl evE_cNone rfl (fun c _ => ?_) (by unfold roomy; omega)
      simp only [List.cons_append, List.nil_append, evE_cNone, evE_cBool, evE_cInt, evE_cStr, evE_var, evE_glob, evE_and, evE_or, evE_not, evE_neg, evE_bin, evE_cmp, evE_cmp2, evE_ite, evE_tup, evE_lst, evE_call, evE_bi, evE_join, evE_idx, evE_slice, evEs_nil, evEs_cons, evO_none, evO_some, getV, List.getElem?_cons_zero, List.getElem?_cons_succ, of_some, bind_ok, call_plain H hgl]
    have hf := flat_esc s
    have hj : joinS [] (s.map esc) = s.flatMap esc := by rw [joinS_nil, List.flatMap_def]
    have s2 : evE gl (callF gl P (d + 1)) (.join (.cStr []) (.comp false (.call 29 [(.var 3)]) .val (.var 1) .cNone none)) [.bool b, .str s, .undef] σ = .ok (.str (s.flatMap esc)) σ := by
      rw [evE_join, evE_cStr, bind_ok, hc, bind_ok, vJoin_gen (by rw [hj]; simp only [List.length_nil]; unfold roomy; omega), of_some, hj]
    have st : ∀ {z}, exB gl (callF gl P (d + 1)) (d_take_shown.body.drop 3) [.bool b, .str s, .str (s.flatMap esc)] σ = z → exB gl (callF gl P (d + 1)) d_take_shown.body [.bool b, .str s, .undef] σ = z := fun h => ((exB_skip t1 rfl).trans ((exB_skip t2 rfl).trans (exB_asg s2))).trans h
    refine callF_ret (D := d_take_shown) (Γ' := [.bool b, .str s, .str (s.flatMap esc)]) H.ts rfl (st ?_)
    obtain ⟨z, e1, e2⟩ := bracketed_set (σ := σ) (s := s) (b := b) hs rfl
    cases b with
    | true =>
      refine exB_take (v := .bool true) (σ' := σ) rfl rfl (exB_rets (σ' := σ) ?_)
      have e1' : vBin σ .add (.str [91]) (.str (s.flatMap esc)) = some (.str z) := e1
      simp only [evE_cNone, evE_cBool, evE_cInt, evE_cStr, evE_var, evE_glob, evE_and, evE_or, evE_not, evE_neg, evE_bin, evE_cmp, evE_cmp2, evE_ite, evE_tup, evE_lst, evE_call, evE_bi, evE_join, evE_idx, evE_slice, evEs_nil, evEs_cons, evO_none, evO_some, getV, List.getElem?_cons_zero, List.getElem?_cons_succ, of_some, bind_ok, e1', e2]
      rfl
    | false =>
      refine (exB_skip (v := .bool false) (σ' := σ) rfl rfl).trans (exB_rets (σ' := σ) ?_)
      have e1' : vBin σ .add (.str [91, 33]) (.str (s.flatMap esc)) = some (.str z) := e1
      simp only [evE_cNone, evE_cBool, evE_cInt, evE_cStr, evE_var, evE_glob, evE_and, evE_or, evE_not, evE_neg, evE_bin, evE_cmp, evE_cmp2, evE_ite, evE_tup, evE_lst, evE_call, evE_bi, evE_join, evE_idx, evE_slice, evEs_nil, evEs_cons, evO_none, evO_some, getV, List.getElem?_cons_zero, List.getElem?_cons_succ, of_some, bind_ok, e1', e2]
      rfl

theorem mark_loop {a0 : V} : ∀ (s done : List Nat) (y : V), done.length + 2 * s.length ≤ 10000 → ∃ y', forGo (exB gl cf [.ite (.cmp .isin (.var 2) (.cStr [40, 41, 124, 42, 63, 46, 91, 93, 126, 33]))
        [.asg 1 (.bin .add (.var 1) (.cStr [126]))]
        [],
      .asg 1 (.bin .add (.var 1) (.var 2))]) 2 (s.map fun c => V.str [c]) [a0, .str done, y] σ = .ok (.next, [a0, .str (done ++ s.flatMap esc), y']) σ
  | [], done, y, _ => ⟨y, by rw [List.flatMap_nil, List.append_nil]; rfl⟩
  | c :: s, done, y, hl => by
    rw [List.length_cons] at hl
    have he := esc_len (c := c)
    obtain ⟨y', ih⟩ := mark_loop (a0 := a0) s (done ++ esc c) (.str [c]) (by rw [List.length_append]; omega)
    refine ⟨y', ?_⟩
    have t1 : evE gl cf (.cmp .isin (.var 2) (.cStr [40, 41, 124, 42, 63, 46, 91, 93, 126, 33])) [a0, .str done, .str [c]] σ = .ok (.bool (special.contains c)) σ := by
      simp only [evE_cNone, evE_cBool, evE_cInt, evE_cStr, evE_var, evE_glob, evE_and, evE_or, evE_not, evE_neg, evE_bin, evE_cmp, evE_cmp2, evE_ite, evE_tup, evE_lst, evE_call, evE_bi, evE_join, evE_idx, evE_slice, evEs_nil, evEs_cons, evO_none, evO_some, getV, List.getElem?_cons_zero, List.getElem?_cons_succ, of_some, bind_ok, in_s]; rfl
    have add : ∀ (u v : List Nat) (e : Ex), u.length + v.length ≤ roomy → evE gl cf e [a0, .str u, .str [c]] σ = .ok (.str v) σ → evE gl cf (.bin .add (.var 1) e) [a0, .str u, .str [c]] σ = .ok (.str (u ++ v)) σ := fun u v e h h' => by
      rw [evE_bin, evE_var, show getV [a0, .str u, .str [c]] 1 = some (.str u) from rfl, of_some, bind_ok, h', bind_ok, vBin_addS h, of_some]
    have hb : exB gl cf [.ite (.cmp .isin (.var 2) (.cStr [40, 41, 124, 42, 63, 46, 91, 93, 126, 33]))
        [.asg 1 (.bin .add (.var 1) (.cStr [126]))]
        [],
      .asg 1 (.bin .add (.var 1) (.var 2))] [a0, .str done, .str [c]] σ = .ok (.next, [a0, .str (done ++ esc c), .str [c]]) σ := by
      rw [esc]
      cases hb : special.contains c with
      | true =>
        rw [hb] at t1
        refine (exB_into (Γ' := [a0, .str (done ++ [126]), .str [c]]) t1 rfl ((exB_asg (add done [126] _ (by simp only [List.length_cons, List.length_nil]; unfold roomy; omega) evE_cStr)).trans exB_nil0)).trans ((exB_asg (add (done ++ [126]) [c] _ (by rw [List.length_append]; simp only [List.length_cons, List.length_nil]; unfold roomy; omega) rfl)).trans ?_)
        rw [List.append_assoc]; rfl
      | false =>
        rw [hb] at t1
        exact (exB_skip t1 rfl).trans ((exB_asg (add done [c] _ (by simp only [List.length_cons, List.length_nil]; unfold roomy; omega) rfl)).trans exB_nil0)
    rw [List.map_cons, forGo_next (Γ' := [a0, .str (done ++ esc c), .str [c]]) hb, ih, List.flatMap_cons, List.append_assoc]

theorem call_mark (H : HW P) (s : List Nat) (hs : s.length ≤ 1000) : callF gl P (d + 1) 33 [.str s] σ = .ok (.str (s.flatMap esc)) σ := by
  obtain ⟨y, hl⟩ := mark_loop (gl := gl) (cf := callF gl P d) (σ := σ) (a0 := .str s) s [] .undef (by simp only [List.length_nil]; omega)
  exact callF_ret (D := d_l_mark) (Γ' := [.str s, .str (s.flatMap esc), y]) H.mr rfl ((exB_asg evE_cStr).trans ((exB_next ((exS_for (x := .str s) (y := .none) (σ₁ := σ) (σ₂ := σ) rfl evE_cNone rfl).trans hl)).trans (exB_rets rfl)))

theorem mem_nod : ∀ {ts : List Tree} {t : Tree}, t ∈ ts → t.nod ≤ Tree.nods ts
  | x :: r, t, h => by
    rw [Tree.nods]
    rcases List.mem_cons.mp h with e | e
    · rw [e]; omega
    · have := mem_nod e; omega

theorem idx_2 {i : Nat} {a b c : V} {r : List V} (h : Γ[i]? = some (.tup (a :: b :: c :: r))) : evE gl cf (.idx (.var i) (.cInt 2)) Γ σ = .ok c σ := by
  simp only [evE_cNone, evE_cBool, evE_cInt, evE_cStr, evE_var, evE_glob, evE_and, evE_or, evE_not, evE_neg, evE_bin, evE_cmp, evE_cmp2, evE_ite, evE_tup, evE_lst, evE_call, evE_bi, evE_join, evE_idx, evE_slice, evEs_nil, evEs_cons, evO_none, evO_some, getV, h, of_some, bind_ok, idx_t2]

/-- shown -/
theorem call_shown (H : HW P) (hgl : gl[1]? = some (.str special)) : ∀ (m d : Nat) (t : Tree), t.dep ≤ m → 2 * t.dep + 1 ≤ d → t.Ok → t.nod ≤ 3000 → callF gl P d 32 [t.v] σ = .ok (.str t.show) σ
  | 0, _, t, hm, _, _, _ => by have := dep_pos t; omega
  | m + 1, 0, t, _, hd, _, _ => by omega
  | m + 1, 1, t, _, hd, _, _ => by have := dep_pos t; omega
  | m + 1, d + 2, t, hm, hd, ok, hn => by
    have hlen := show_len t ok
    -- the parts of a row or a pick
    have parts : ∀ {ts : List Tree} {kinds : Ex} {kv : V} {hh : Tree → Bool} {tag : List Nat}, (∀ u ∈ ts, u.Ok ∧ u.dep ≤ m ∧ 2 * u.dep + 1 ≤ d ∧ u.nod ≤ 3000) → ts.length ≤ 1000 → (∀ {Γ : Fm}, evE gl (callF gl P (d + 1)) kinds Γ σ = .ok kv σ) → (∃ ks, kv = .tup ks ∨ kv = .lst ks) → (∀ u, vIn σ (.str (tagOf u)) kv = some (hh u)) →
        evE gl (callF gl P (d + 1)) (.comp false (.call 31 [(.var 2), kinds]) .val (.idx (.var 0) (.cInt 1)) .cNone none) [.tup [.str tag, .tup (ts.map Tree.v)], .undef] σ = .ok (.lst (ts.map fun u => V.str (brkIf (hh u) u.show))) σ := fun {ts kinds kv hh tag} hts hl hk hk2 hin => by
      refine evE_compM (h := Tree.v) (tag_1 rfl) evE_cNone rfl (fun u hu => ?_) (by unfold roomy; omega)
      obtain ⟨u1, u2, u3, u4⟩ := hts u hu
      have hul := show_len u u1
      have ih := call_heldG (d := d) H.he (call_shown H hgl m d u u2 u3 u1 u4) hk2 (hin u) (by omega)
      have hv := getV_t (Γ := [.tup [.str tag, .tup (ts.map Tree.v)], .undef] ++ [u.v]) (i := 2) (t := u) rfl
      rw [evE_call, evEs_cons, evE_var, hv, of_some, bind_ok, evEs_cons, hk, bind_ok, evEs_nil, bind_ok, bind_ok, bind_ok, ih]
    have p2 : ∀ {Γ : Fm}, evE gl (callF gl P (d + 1)) (.tup [(.cStr [114, 111, 119]), (.cStr [112, 105, 99, 107])]) Γ σ = .ok (.tup [.str [114, 111, 119], .str [112, 105, 99, 107]]) σ := by
      intros; simp only [evE_cNone, evE_cBool, evE_cInt, evE_cStr, evE_var, evE_glob, evE_and, evE_or, evE_not, evE_neg, evE_bin, evE_cmp, evE_cmp2, evE_ite, evE_tup, evE_lst, evE_call, evE_bi, evE_join, evE_idx, evE_slice, evEs_nil, evEs_cons, evO_none, evO_some, bind_ok, tup2]
    have p1 : ∀ {Γ : Fm}, evE gl (callF gl P (d + 1)) (.tup [(.cStr [112, 105, 99, 107])]) Γ σ = .ok (.tup [.str [112, 105, 99, 107]]) σ := by
      intros; simp only [evE_cNone, evE_cBool, evE_cInt, evE_cStr, evE_var, evE_glob, evE_and, evE_or, evE_not, evE_neg, evE_bin, evE_cmp, evE_cmp2, evE_ite, evE_tup, evE_lst, evE_call, evE_bi, evE_join, evE_idx, evE_slice, evEs_nil, evEs_cons, evO_none, evO_some, bind_ok]; exact if_pos (by simp [roomy])
    have p4 : ∀ {Γ : Fm}, evE gl (callF gl P (d + 1)) (.tup [(.cStr [114, 111, 119]), (.cStr [112, 105, 99, 107]), (.cStr [109, 97, 121, 98, 101]), (.cStr [109, 97, 110, 121])]) Γ σ = .ok (.tup [.str [114, 111, 119], .str [112, 105, 99, 107], .str [109, 97, 121, 98, 101], .str [109, 97, 110, 121]]) σ := by
      intros; simp only [evE_cNone, evE_cBool, evE_cInt, evE_cStr, evE_var, evE_glob, evE_and, evE_or, evE_not, evE_neg, evE_bin, evE_cmp, evE_cmp2, evE_ite, evE_tup, evE_lst, evE_call, evE_bi, evE_join, evE_idx, evE_slice, evEs_nil, evEs_cons, evO_none, evO_some, bind_ok, tup4]
    -- a repeat
    have rept : ∀ {t' : Tree} {e : Bool} {c : Nat} {nm : List Nat} {T : Tree}, T.v = .tup [.str nm, t'.v, .bool e] → tagOf T = nm → ((nm == [109, 97, 110, 121]) = true ∧ c = 42 ∨ (nm == [109, 97, 110, 121]) = false ∧ c = 63) → (nm == [116, 97, 107, 101]) = false → (nm == [114, 111, 119]) = false → (nm == [112, 105, 99, 107]) = false →
        t'.Ok → t'.dep ≤ m → 2 * t'.dep + 1 ≤ d → t'.nod ≤ 3000 → callF gl P (d + 2) 32 [T.v] σ = .ok (.str (brkIf (h3 t') t'.show ++ rp c e)) σ := fun {t' e c nm T} hT htg hc n1 n2 n3 u1 u2 u3 u4 => by
      have hul := show_len t' u1
      have ih := call_heldG (d := d) H.he (call_shown H hgl m d t' u2 u3 u1 u4) ⟨_, .inl rfl⟩ (in_kinds3 t') (by omega)
      generalize hU : brkIf (h3 t') t'.show = U at ih
      have hUl : U.length ≤ 1000002 := by rw [← hU]; have := brkIf_len (b := h3 t') (u := t'.show); omega
      have hv := getV_t (Γ := [T.v, .undef]) (i := 0) (t := T) rfl
      have i1 : vIdx σ T.v (.int 1) = some t'.v := by rw [hT]; exact idx_t1
      have i2 : vIdx σ T.v (.int 2) = some (.bool e) := by rw [hT]; exact idx_t2
      have s1 : evE gl (callF gl P (d + 1)) (.call 31 [(.idx (.var 0) (.cInt 1)), (.tup [(.cStr [114, 111, 119]), (.cStr [112, 105, 99, 107]), (.cStr [109, 97, 121, 98, 101]), (.cStr [109, 97, 110, 121])])]) [T.v, .undef] σ = .ok (.str U) σ := by
        rw [evE_call, evEs_cons, evE_idx, evE_var, hv, of_some, bind_ok, evE_cInt, bind_ok, i1, of_some, bind_ok, evEs_cons, p4, bind_ok, evEs_nil, bind_ok, bind_ok, bind_ok, ih]
      have add : ∀ (u v : List Nat), u.length + v.length ≤ roomy → evE gl (callF gl P (d + 1)) (.bin .add (.var 1) (.cStr v)) [T.v, .str u] σ = .ok (.str (u ++ v)) σ := fun u v h => by
        rw [evE_bin, evE_var, show getV [T.v, .str u] 1 = some (.str u) from rfl, of_some, bind_ok, evE_cStr, bind_ok, vBin_addS h, of_some]
      have mid : ∀ r, exB gl (callF gl P (d + 1)) (.ite (.cmp .eq (.idx (.var 0) (.cInt 0)) (.cStr [109, 97, 110, 121])) [.asg 1 (.bin .add (.var 1) (.cStr [42]))] [.asg 1 (.bin .add (.var 1) (.cStr [63]))] :: r) [T.v, .str U] σ = exB gl (callF gl P (d + 1)) r [T.v, .str (U ++ [c])] σ := fun r => by
        rcases hc with ⟨q, rfl⟩ | ⟨q, rfl⟩
        · exact exB_into (tag_test rfl) (by rw [htg, q]; rfl) ((exB_asg (add U [42] (by simp only [List.length_cons, List.length_nil]; unfold roomy; omega))).trans exB_nil0)
        · exact exB_ite_else (tag_test rfl) (by rw [htg, q]; rfl) ((exB_asg (add U [63] (by simp only [List.length_cons, List.length_nil]; unfold roomy; omega))).trans exB_nil0)
      have te : evE gl (callF gl P (d + 1)) (.idx (.var 0) (.cInt 2)) [T.v, .str (U ++ [c])] σ = .ok (.bool e) σ := by
        have hv' := getV_t (Γ := [T.v, .str (U ++ [c])]) (i := 0) (t := T) rfl
        rw [evE_idx, evE_var, hv', of_some, bind_ok, evE_cInt, bind_ok, i2, of_some]
      refine callF_ret (D := d_shown) (Γ' := [T.v, .str (U ++ [c])]) H.sh rfl ((exB_skip (tag_test rfl) (by rw [htg, n1]; rfl)).trans ((exB_skip (tag_test rfl) (by rw [htg, n2]; rfl)).trans ((exB_skip (tag_test rfl) (by rw [htg, n3]; rfl)).trans ((exB_asg s1).trans ((mid _).trans ?_)))))
      cases e with
      | true => exact exB_take te rfl (exB_rets (σ' := σ) rfl)
      | false =>
        refine (exB_skip te rfl).trans (exB_rets (σ' := σ) ((add (U ++ [c]) [33] (by rw [List.length_append]; simp only [List.length_cons, List.length_nil]; unfold roomy; omega)).trans ?_))
        rw [List.append_assoc]; rfl
    cases t with
    | take b s =>
      rw [Tree.Ok] at ok
      have hts := call_takeShown (gl := gl) (d := d - 1) (σ := σ) H hgl b s (by omega)
      rw [dep_take] at hd
      rw [show d - 1 + 2 = d + 1 by omega] at hts
      refine callF_ret (D := d_shown) (Γ' := [(Tree.take b s).v, .undef]) H.sh rfl (exB_take (tag_test rfl) rfl (exB_rets (σ' := σ) ?_))
      show evE gl _ _ [.tup [.str [116, 97, 107, 101], .bool b, .str s], .undef] σ = _
      rw [show_take]
      simp only [evE_cNone, evE_cBool, evE_cInt, evE_cStr, evE_var, evE_glob, evE_and, evE_or, evE_not, evE_neg, evE_bin, evE_cmp, evE_cmp2, evE_ite, evE_tup, evE_lst, evE_call, evE_bi, evE_join, evE_idx, evE_slice, evEs_nil, evEs_cons, evO_none, evO_some, getV, List.getElem?_cons_zero, of_some, bind_ok, idx_t1, idx_t2, hts]
    | row ts =>
      obtain ⟨⟨ok1, ok2⟩, ok3⟩ := ok_row.mp ok
      rw [dep_row] at hm hd
      rw [nod_row] at hn
      rw [show_row] at hlen ⊢
      have hp := parts (tag := [114, 111, 119]) (fun u hu => ⟨ok3 u hu, by have := dep_mem hu; omega, by have := dep_mem hu; omega, by have := mem_nod hu; omega⟩) ok2 p2 ⟨_, .inl rfl⟩ (fun u => in_kinds1 u true)
      rw [v_row]
      rw [nod_row] at hlen
      refine callF_ret (D := d_shown) (Γ' := [.tup [.str [114, 111, 119], .tup (ts.map Tree.v)], .undef]) H.sh rfl ((exB_skip (tag_eq rfl) rfl).trans (exB_take (tag_eq rfl) rfl (exB_rets (σ' := σ) ?_)))
      show evE gl _ _ [.tup [.str [114, 111, 119], .tup (ts.map Tree.v)], .undef] σ = _
      rw [showR_join] at hlen ⊢
      rw [evE_join, evE_cStr, bind_ok, hp, bind_ok, vJoin_gen (by simp only [List.length_nil]; unfold roomy; omega), of_some]
    | pick ts =>
      obtain ⟨⟨ok1, ok2⟩, ok3⟩ := ok_pick.mp ok
      rw [dep_pick] at hm hd
      rw [nod_pick] at hn
      rw [show_pick] at hlen ⊢
      have hp := parts (tag := [112, 105, 99, 107]) (fun u hu => ⟨ok3 u hu, by have := dep_mem hu; omega, by have := dep_mem hu; omega, by have := mem_nod hu; omega⟩) ok2 p1 ⟨_, .inl rfl⟩ (fun u => in_kinds2 u true)
      rw [v_pick]
      rw [nod_pick] at hlen
      refine callF_ret (D := d_shown) (Γ' := [.tup [.str [112, 105, 99, 107], .tup (ts.map Tree.v)], .undef]) H.sh rfl ((exB_skip (tag_eq rfl) rfl).trans ((exB_skip (tag_eq rfl) rfl).trans (exB_take (tag_eq rfl) rfl (exB_rets (σ' := σ) ?_))))
      show evE gl _ _ [.tup [.str [112, 105, 99, 107], .tup (ts.map Tree.v)], .undef] σ = _
      rw [showP_join] at hlen ⊢
      rw [evE_join, evE_cStr, bind_ok, hp, bind_ok, vJoin_gen (by simp only [List.length_cons, List.length_nil]; unfold roomy; omega), of_some]
    | maybe t e =>
      rw [Tree.Ok] at ok
      rw [dep_maybe] at hm hd
      rw [nod_maybe] at hn
      rw [show_maybe]
      exact rept v_maybe rfl (.inr ⟨rfl, rfl⟩) rfl rfl rfl ok (by omega) (by omega) (by omega)
    | many t e =>
      rw [Tree.Ok] at ok
      rw [dep_many] at hm hd
      rw [nod_many] at hn
      rw [show_many]
      exact rept v_many rfl (.inl ⟨rfl, rfl⟩) rfl rfl rfl ok.1 (by omega) (by omega) (by omega)
end
end Mine

namespace Mine
section
variable {gl : List V} {cf : CF} {σ : Sg} {Γ : Fm} {P : List Def} {d : Nat}

/-- _law_shown -/
theorem call_lshown (H : HW P) : ∀ (m d : Nat) (t : Tree), t.dep ≤ m → 2 * t.dep + 1 ≤ d → t.Ok → t.nod ≤ 3000 → callF gl P d 35 [t.v] σ = .ok (.str t.show) σ
  | 0, _, t, hm, _, _, _ => by have := dep_pos t; omega
  | m + 1, 0, t, _, hd, _, _ => by omega
  | m + 1, 1, t, _, hd, _, _ => by have := dep_pos t; omega
  | m + 1, d + 2, t, hm, hd, ok, hn => by
    have hlen := show_len t ok
    -- no take
    have noT : ∀ {T : Tree} {z : Res (Fl × Fm)}, (tagOf T == [116, 97, 107, 101]) = false → exB gl (callF gl P (d + 1)) (d_l_shown.body.drop 3) [T.v, .undef, .undef] σ = z → exB gl (callF gl P (d + 1)) d_l_shown.body [T.v, .undef, .undef] σ = z := fun {T z} h hz => by
      have t0 := tag_test (gl := gl) (cf := callF gl P (d + 1)) (σ := σ) (Γ := [T.v, .undef, .undef]) (i := 0) (t := T) (w := [116, 97, 107, 101]) rfl
      rw [h] at t0
      exact ((exB_skip (v := .bool false) (σ' := σ) (and_bb (q := false) t0 fun x => by cases x) rfl).trans ((exB_skip (v := .bool false) (σ' := σ) (and_bb (q := false) t0 fun x => by cases x) rfl).trans (exB_skip t0 rfl))).trans hz
    have parts : ∀ {ts : List Tree} {kinds : Ex} {kv : V} {hh : Tree → Bool} {tag : List Nat}, (∀ u ∈ ts, u.Ok ∧ u.dep ≤ m ∧ 2 * u.dep + 1 ≤ d ∧ u.nod ≤ 3000) → ts.length ≤ 1000 → (∀ {Γ : Fm}, evE gl (callF gl P (d + 1)) kinds Γ σ = .ok kv σ) → (∃ ks, kv = .tup ks ∨ kv = .lst ks) → (∀ u, vIn σ (.str (tagOf u)) kv = some (hh u)) →
        evE gl (callF gl P (d + 1)) (.comp false (.call 34 [(.var 3), kinds]) .val (.idx (.var 0) (.cInt 1)) .cNone none) [.tup [.str tag, .tup (ts.map Tree.v)], .undef, .undef] σ = .ok (.lst (ts.map fun u => V.str (brkIf (hh u) u.show))) σ := fun {ts kinds kv hh tag} hts hl hk hk2 hin => by
      refine evE_compM (h := Tree.v) (tag_1 rfl) evE_cNone rfl (fun u hu => ?_) (by unfold roomy; omega)
      obtain ⟨u1, u2, u3, u4⟩ := hts u hu
      have hul := show_len u u1
      have ih := call_heldG (d := d) H.wi (call_lshown H m d u u2 u3 u1 u4) hk2 (hin u) (by omega)
      have hv := getV_t (Γ := [.tup [.str tag, .tup (ts.map Tree.v)], .undef, .undef] ++ [u.v]) (i := 3) (t := u) rfl
      rw [evE_call, evEs_cons, evE_var, hv, of_some, bind_ok, evEs_cons, hk, bind_ok, evEs_nil, bind_ok, bind_ok, bind_ok, ih]
    have l2 : ∀ {a b : V}, putL false [a, b] σ = .ok (.lst [a, b]) σ := putL_f (by simp [roomy])
    have l4 : ∀ {a b c d : V}, putL false [a, b, c, d] σ = .ok (.lst [a, b, c, d]) σ := putL_f (by simp [roomy])
    have p2 : ∀ {Γ : Fm}, evE gl (callF gl P (d + 1)) (.lst false [(.cStr [114, 111, 119]), (.cStr [112, 105, 99, 107])]) Γ σ = .ok (.lst [.str [114, 111, 119], .str [112, 105, 99, 107]]) σ := by
      intros; simp only [evE_cNone, evE_cBool, evE_cInt, evE_cStr, evE_var, evE_glob, evE_and, evE_or, evE_not, evE_neg, evE_bin, evE_cmp, evE_cmp2, evE_ite, evE_tup, evE_lst, evE_call, evE_bi, evE_join, evE_idx, evE_slice, evEs_nil, evEs_cons, evO_none, evO_some, bind_ok, l2]
    have p1 : ∀ {Γ : Fm}, evE gl (callF gl P (d + 1)) (.lst false [(.cStr [112, 105, 99, 107])]) Γ σ = .ok (.lst [.str [112, 105, 99, 107]]) σ := by
      intros; simp only [evE_cNone, evE_cBool, evE_cInt, evE_cStr, evE_var, evE_glob, evE_and, evE_or, evE_not, evE_neg, evE_bin, evE_cmp, evE_cmp2, evE_ite, evE_tup, evE_lst, evE_call, evE_bi, evE_join, evE_idx, evE_slice, evEs_nil, evEs_cons, evO_none, evO_some, bind_ok, putL_1]
    have p4 : ∀ {Γ : Fm}, evE gl (callF gl P (d + 1)) (.lst false [(.cStr [114, 111, 119]), (.cStr [112, 105, 99, 107]), (.cStr [109, 97, 110, 121]), (.cStr [109, 97, 121, 98, 101])]) Γ σ = .ok (.lst [.str [114, 111, 119], .str [112, 105, 99, 107], .str [109, 97, 110, 121], .str [109, 97, 121, 98, 101]]) σ := by
      intros; simp only [evE_cNone, evE_cBool, evE_cInt, evE_cStr, evE_var, evE_glob, evE_and, evE_or, evE_not, evE_neg, evE_bin, evE_cmp, evE_cmp2, evE_ite, evE_tup, evE_lst, evE_call, evE_bi, evE_join, evE_idx, evE_slice, evEs_nil, evEs_cons, evO_none, evO_some, bind_ok, l4]
    have rept : ∀ {t' : Tree} {e : Bool} {c : Nat} {nm : List Nat} {T : Tree}, T.v = .tup [.str nm, t'.v, .bool e] → tagOf T = nm → ((nm == [109, 97, 110, 121]) = true ∧ c = 42 ∨ (nm == [109, 97, 110, 121]) = false ∧ c = 63) → (nm == [116, 97, 107, 101]) = false → (nm == [114, 111, 119]) = false → (nm == [112, 105, 99, 107]) = false →
        t'.Ok → t'.dep ≤ m → 2 * t'.dep + 1 ≤ d → t'.nod ≤ 3000 → callF gl P (d + 2) 35 [T.v] σ = .ok (.str (brkIf (h3 t') t'.show ++ rp c e)) σ := fun {t' e c nm T} hT htg hc n1 n2 n3 u1 u2 u3 u4 => by
      have hul := show_len t' u1
      have ih := call_heldG (d := d) H.wi (call_lshown H m d t' u2 u3 u1 u4) ⟨_, .inr rfl⟩ (in_kinds3' t') (by omega)
      generalize hU : brkIf (h3 t') t'.show = U at ih
      have hUl : U.length ≤ 1000002 := by rw [← hU]; have := brkIf_len (b := h3 t') (u := t'.show); omega
      have i1 : vIdx σ T.v (.int 1) = some t'.v := by rw [hT]; exact idx_t1
      have i2 : vIdx σ T.v (.int 2) = some (.bool e) := by rw [hT]; exact idx_t2
      have s1 : evE gl (callF gl P (d + 1)) (.ite (.cmp .eq (.idx (.var 0) (.cInt 0)) (.cStr [109, 97, 110, 121])) (.cStr [42]) (.cStr [63])) [T.v, .undef, .undef] σ = .ok (.str [c]) σ := by
        rw [evE_ite, tag_test (t := T) rfl, htg, bind_ok, true_b, of_some, bind_ok]
        rcases hc with ⟨q, rfl⟩ | ⟨q, rfl⟩ <;> rw [q] <;> rfl
      have s2 : evE gl (callF gl P (d + 1)) (.bin .add (.call 34 [(.idx (.var 0) (.cInt 1)), (.lst false [(.cStr [114, 111, 119]), (.cStr [112, 105, 99, 107]), (.cStr [109, 97, 110, 121]), (.cStr [109, 97, 121, 98, 101])])]) (.var 1)) [T.v, .str [c], .undef] σ = .ok (.str (U ++ [c])) σ := by
        have hv := getV_t (Γ := [T.v, .str [c], .undef]) (i := 0) (t := T) rfl
        rw [evE_bin, evE_call, evEs_cons, evE_idx, evE_var, hv, of_some, bind_ok, evE_cInt, bind_ok, i1, of_some, bind_ok, evEs_cons, p4, bind_ok, evEs_nil, bind_ok, bind_ok, bind_ok, ih, bind_ok, evE_var, show getV [T.v, .str [c], .undef] 1 = some (.str [c]) from rfl, of_some, bind_ok, vBin_addS (by simp only [List.length_cons, List.length_nil]; unfold roomy; omega), of_some]
      refine callF_ret (D := d_l_shown) (Γ' := [T.v, .str [c], .str (U ++ [c])]) H.ls rfl (noT (by rw [htg]; exact n1) ((exB_skip (tag_test rfl) (by rw [htg, n2]; rfl)).trans ((exB_skip (tag_test rfl) (by rw [htg, n3]; rfl)).trans ((exB_asg s1).trans ((exB_asg s2).trans (exB_rets (σ' := σ) ?_))))))
      show evE gl _ _ [T.v, .str [c], .str (U ++ [c])] σ = _
      have hv := getV_t (Γ := [T.v, .str [c], .str (U ++ [c])]) (i := 0) (t := T) rfl
      rw [evE_ite, evE_idx, evE_var, hv, of_some, bind_ok, evE_cInt, bind_ok, i2, of_some, bind_ok, true_b, of_some, bind_ok]
      cases e with
      | true => rfl
      | false =>
        rw [if_neg Bool.false_ne_true, evE_bin, evE_var, show getV [T.v, .str [c], .str (U ++ [c])] 2 = some (.str (U ++ [c])) from rfl, of_some, bind_ok, evE_cStr, bind_ok, vBin_addS (by rw [List.length_append]; simp only [List.length_cons, List.length_nil]; unfold roomy; omega), of_some, List.append_assoc]
        rfl
    cases t with
    | take b s =>
      rw [Tree.Ok] at ok
      rw [dep_take] at hd
      have hmk := call_mark (gl := gl) (d := d) (σ := σ) H s (by omega)
      have tk : evE gl (callF gl P (d + 1)) (.cmp .eq (.idx (.var 0) (.cInt 0)) (.cStr [116, 97, 107, 101])) [.tup [.str [116, 97, 107, 101], .bool b, .str s], .undef, .undef] σ = .ok (.bool true) σ := (tag_eq (s := [116, 97, 107, 101]) rfl).trans rfl
      have ib : evE gl (callF gl P (d + 1)) (.idx (.var 0) (.cInt 1)) [.tup [.str [116, 97, 107, 101], .bool b, .str s], .undef, .undef] σ = .ok (.bool b) σ := tag_1 rfl
      have is : evE gl (callF gl P (d + 1)) (.idx (.var 0) (.cInt 2)) [.tup [.str [116, 97, 107, 101], .bool b, .str s], .undef, .undef] σ = .ok (.str s) σ := idx_2 rfl
      have em : evE gl (callF gl P (d + 1)) (.call 33 [(.idx (.var 0) (.cInt 2))]) [.tup [.str [116, 97, 107, 101], .bool b, .str s], .undef, .undef] σ = .ok (.str (s.flatMap esc)) σ := by
        rw [evE_call, evEs_cons, is, bind_ok, evEs_nil, bind_ok, bind_ok, hmk]
      have el : evE gl (callF gl P (d + 1)) (.cmp .eq (.bi .len [(.idx (.var 0) (.cInt 2))]) (.cInt 1)) [.tup [.str [116, 97, 107, 101], .bool b, .str s], .undef, .undef] σ = .ok (.bool (s.length == 1)) σ := by
        rw [evE_cmp, evE_bi, evEs_cons, is, bind_ok, evEs_nil, bind_ok, bind_ok, bi_len_s, of_some, bind_ok, evE_cInt, bind_ok, eq_ii, of_some, bind_ok]
        congr 2
        by_cases h : s.length = 1
        · rw [h]; rfl
        · rw [beq_eq_false_iff_ne.mpr h, beq_eq_false_iff_ne.mpr (by omega)]
      have t1 := and_bb tk fun _ => and_bb ib fun _ => el
      have t2 := and_bb tk fun _ => ib
      rw [show_take]
      unfold takeShow
      obtain ⟨z, e1, e2⟩ := bracketed_set (σ := σ) (s := s) (b := b) (by omega) rfl
      refine callF_ret (D := d_l_shown) (Γ' := [.tup [.str [116, 97, 107, 101], .bool b, .str s], .undef, .undef]) H.ls rfl ?_
      cases b with
      | true =>
        cases h1 : (s.length == 1) with
        | true => rw [h1] at t1; exact exB_take t1 rfl (exB_rets em)
        | false =>
          rw [h1] at t1
          refine (exB_skip t1 rfl).trans (exB_take t2 rfl (exB_rets (σ' := σ) ?_))
          have e1' : vBin σ .add (.str [91]) (.str (s.flatMap esc)) = some (.str z) := e1
          show evE gl _ _ [.tup [.str [116, 97, 107, 101], .bool true, .str s], .undef, .undef] σ = _
          rw [evE_bin, evE_bin, evE_cStr, bind_ok, em, bind_ok, e1', of_some, bind_ok, evE_cStr, bind_ok, e2, of_some]; rfl
      | false =>
        refine (exB_skip t1 rfl).trans ((exB_skip t2 rfl).trans (exB_take tk rfl (exB_rets (σ' := σ) ?_)))
        show evE gl _ _ [.tup [.str [116, 97, 107, 101], .bool false, .str s], .undef, .undef] σ = _
        have e1' : vBin σ .add (.str [91, 33]) (.str (s.flatMap esc)) = some (.str z) := e1
        rw [evE_ite, evE_cmp, is, bind_ok, evE_cStr, bind_ok, eq_ss, of_some, bind_ok, bind_ok, true_b, of_some, bind_ok]
        cases h1 : (s == []) with
        | true => rfl
        | false => rw [if_neg Bool.false_ne_true, evE_bin, evE_bin, evE_cStr, bind_ok, em, bind_ok, e1', of_some, bind_ok, evE_cStr, bind_ok, e2, of_some]; rfl
    | row ts =>
      obtain ⟨⟨ok1, ok2⟩, ok3⟩ := ok_row.mp ok
      rw [dep_row] at hm hd
      rw [nod_row] at hn
      rw [show_row] at hlen ⊢
      have hp := parts (tag := [114, 111, 119]) (fun u hu => ⟨ok3 u hu, by have := dep_mem hu; omega, by have := dep_mem hu; omega, by have := mem_nod hu; omega⟩) ok2 p2 ⟨_, .inr rfl⟩ (fun u => in_kinds1 u false)
      rw [nod_row] at hlen
      refine callF_ret (D := d_l_shown) (Γ' := [(Tree.row ts).v, .undef, .undef]) H.ls rfl (noT rfl (exB_take (tag_test rfl) rfl (exB_rets (σ' := σ) ?_)))
      show evE gl _ _ [(Tree.row ts).v, .undef, .undef] σ = _
      rw [v_row]
      rw [showR_join] at hlen ⊢
      rw [evE_join, evE_cStr, bind_ok, hp, bind_ok, vJoin_gen (by simp only [List.length_nil]; unfold roomy; omega), of_some]
    | pick ts =>
      obtain ⟨⟨ok1, ok2⟩, ok3⟩ := ok_pick.mp ok
      rw [dep_pick] at hm hd
      rw [nod_pick] at hn
      rw [show_pick] at hlen ⊢
      have hp := parts (tag := [112, 105, 99, 107]) (fun u hu => ⟨ok3 u hu, by have := dep_mem hu; omega, by have := dep_mem hu; omega, by have := mem_nod hu; omega⟩) ok2 p1 ⟨_, .inr rfl⟩ (fun u => in_kinds2 u false)
      rw [nod_pick] at hlen
      refine callF_ret (D := d_l_shown) (Γ' := [(Tree.pick ts).v, .undef, .undef]) H.ls rfl (noT rfl ((exB_skip (tag_test rfl) rfl).trans (exB_take (tag_test rfl) rfl (exB_rets (σ' := σ) ?_))))
      show evE gl _ _ [(Tree.pick ts).v, .undef, .undef] σ = _
      rw [v_pick]
      rw [showP_join] at hlen ⊢
      rw [evE_join, evE_cStr, bind_ok, hp, bind_ok, vJoin_gen (by simp only [List.length_cons, List.length_nil]; unfold roomy; omega), of_some]
    | maybe t e =>
      rw [Tree.Ok] at ok
      rw [dep_maybe] at hm hd
      rw [nod_maybe] at hn
      rw [show_maybe]
      exact rept v_maybe rfl (.inr ⟨rfl, rfl⟩) rfl rfl rfl ok (by omega) (by omega) (by omega)
    | many t e =>
      rw [Tree.Ok] at ok
      rw [dep_many] at hm hd
      rw [nod_many] at hn
      rw [show_many]
      exact rept v_many rfl (.inl ⟨rfl, rfl⟩) rfl rfl rfl ok.1 (by omega) (by omega) (by omega)
end
end Mine

namespace Mine

theorem dat_tree : ∀ (m : Nat) (t : Tree), t.dep ≤ m → t.Ok → dat (2 * t.dep) t.v
  | 0, t, hm, _ => by have := dep_pos t; omega
  | m + 1, t, hm, ok => by
    cases t with
    | take b s => rw [dep_take]; exact dat_take
    | row ts =>
      obtain ⟨⟨_, ok2⟩, ok3⟩ := ok_row.mp ok
      rw [dep_row] at hm
      rw [dep_row, v_row, show 2 * (1 + Tree.deps ts) = 2 * Tree.deps ts + 2 by omega]
      exact dat_seq (by omega) fun u hu => dat_mono (by have := dep_mem hu; omega) (dat_tree m u (by have := dep_mem hu; omega) (ok3 u hu))
    | pick ts =>
      obtain ⟨⟨_, ok2⟩, ok3⟩ := ok_pick.mp ok
      rw [dep_pick] at hm
      rw [dep_pick, v_pick, show 2 * (1 + Tree.deps ts) = 2 * Tree.deps ts + 2 by omega]
      exact dat_seq (by omega) fun u hu => dat_mono (by have := dep_mem hu; omega) (dat_tree m u (by have := dep_mem hu; omega) (ok3 u hu))
    | maybe t e =>
      rw [Tree.Ok] at ok
      rw [dep_maybe] at hm
      rw [dep_maybe, v_maybe, show 2 * (t.dep + 1) = 2 * t.dep + 2 by omega]
      exact dat_one (dat_mono (by omega) (dat_tree m t (by omega) ok))
    | many t e =>
      rw [Tree.Ok] at ok
      rw [dep_many] at hm
      rw [dep_many, v_many, show 2 * (t.dep + 1) = 2 * t.dep + 2 by omega]
      exact dat_one (dat_mono (by omega) (dat_tree m t (by omega) ok.1))

/-- maybe upon maybe -/
noncomputable def chain (q r : Int) : List Nat → Tree → Tree
  | [], t => t
  | j :: js, t => chain q r js (.maybe t ((j : Int).fmod q == r))
theorem chain_snoc {q r : Int} : ∀ (js : List Nat) (j : Nat) (t : Tree), chain q r (js ++ [j]) t = .maybe (chain q r js t) ((j : Int).fmod q == r)
  | [], _, _ => rfl
  | i :: js, j, t => chain_snoc js j _
theorem chain_facts {q r : Int} : ∀ (js : List Nat) (t : Tree), t.Ok → (chain q r js t).Ok ∧ (chain q r js t).dep = t.dep + js.length ∧ (chain q r js t).nod = t.nod + js.length
  | [], t, h => ⟨h, rfl, rfl⟩
  | j :: js, t, h => by
    obtain ⟨h1, h2, h3⟩ := chain_facts (q := q) (r := r) js (.maybe t ((j : Int).fmod q == r)) (by rw [Tree.Ok]; exact h)
    refine ⟨h1, ?_, ?_⟩
    · rw [chain, h2, dep_maybe, List.length_cons]; omega
    · rw [chain, h3, nod_maybe, List.length_cons]; omega

structure H5 (P : List Def) : Prop where
  t : HT P 7
  r : HR P
  w : HW P
  a21 : P[21]? = some d_l_alike
  a36 : P[36]? = some d_l_pick_by
  a37 : P[37]? = some d_l_pick_right_v05

section
variable {gl : List V} {cf : CF} {σ σ' : Sg} {Γ : Fm} {P : List Def} {d : Nat}

theorem or_f {a b : Ex} {q : Bool} (h1 : evE gl cf a Γ σ = .ok (.bool false) σ) (h2 : evE gl cf b Γ σ = .ok (.bool q) σ') : evE gl cf (.or a b) Γ σ = .ok (.bool q) σ' := by
  rw [evE_or, h1, bind_ok, true_b, of_some, bind_ok, if_neg Bool.false_ne_true, h2]
theorem not_s {a : Ex} {p : Bool} (h1 : evE gl cf a Γ σ = .ok (.bool p) σ') : evE gl cf (.not a) Γ σ = .ok (.bool (!p)) σ' := by
  rw [evE_not, h1, bind_ok, true_b, of_some, bind_ok]

theorem room_add {a b : List Nat} (ha : a.length ≤ 1000000) (hb : b.length ≤ 1000000) : a.length + b.length ≤ roomy := Nat.le_trans (Nat.add_le_add ha hb) (by decide)
theorem le_app {a b : List Nat} {m n k : Nat} (ha : a.length ≤ m) (hb : b.length ≤ n) (h : m + n ≤ k) : (a ++ b).length ≤ k := by rw [List.length_append]; exact Nat.le_trans (Nat.add_le_add ha hb) h
/-- a text between two others -/
theorem add3 {e : Ex} {u a b : List Nat} (he : evE gl cf e Γ σ = .ok (.str u) σ) (hu : u.length ≤ 200000) (ha : a.length ≤ 10) (hb : b.length ≤ 10) : evE gl cf (.bin .add (.bin .add (.cStr a) e) (.cStr b)) Γ σ = .ok (.str (a ++ u ++ b)) σ := by
  rw [evE_bin, evE_bin, evE_cStr, bind_ok, he, bind_ok, vBin_addS (room_add (Nat.le_trans ha (by decide)) (Nat.le_trans hu (by decide))), of_some, bind_ok, evE_cStr, bind_ok, vBin_addS (room_add (le_app ha hu (by decide)) (Nat.le_trans hb (by decide))), of_some]
theorem len3 {u a b : List Nat} (hu : u.length ≤ 200000) (ha : a.length ≤ 10) (hb : b.length ≤ 10) : (a ++ u ++ b).length ≤ 200020 := le_app (le_app ha hu (Nat.le_refl _)) hb (by decide)
theorem add5 {e : Ex} {u a b c : List Nat} (he : evE gl cf e Γ σ = .ok (.str u) σ) (hu : u.length ≤ 200000) (ha : a.length ≤ 10) (hb : b.length ≤ 10) (hc : c.length ≤ 10) : evE gl cf (.bin .add (.bin .add (.bin .add (.bin .add (.cStr a) e) (.cStr b)) e) (.cStr c)) Γ σ = .ok (.str (a ++ u ++ b ++ u ++ c)) σ := by
  rw [evE_bin, evE_bin, add3 he hu ha hb, bind_ok, he, bind_ok, vBin_addS (room_add (Nat.le_trans (len3 hu ha hb) (by decide)) (Nat.le_trans hu (by decide))), of_some, bind_ok, evE_cStr, bind_ok, vBin_addS (room_add (le_app (len3 hu ha hb) hu (by decide)) (Nat.le_trans hc (by decide))), of_some]
theorem len5 {u a b c : List Nat} (hu : u.length ≤ 200000) (ha : a.length ≤ 10) (hb : b.length ≤ 10) (hc : c.length ≤ 10) : (a ++ u ++ b ++ u ++ c).length < 1000000 := Nat.lt_of_le_of_lt (le_app (le_app (len3 hu ha hb) hu (Nat.le_refl _)) hc (Nat.le_refl _)) (by decide)
theorem lt3 {u a b : List Nat} (hu : u.length ≤ 200000) (ha : a.length ≤ 10) (hb : b.length ≤ 10) : (a ++ u ++ b).length < 1000000 := Nat.lt_of_le_of_lt (len3 hu ha hb) (by decide)

theorem chain_loop {fr : V → V → Fm} {v : Nat} {q r : Int} (hq : q ≠ 0) (f1 : ∀ a b k, (fr a b).set 3 k = fr a k) (f2 : ∀ a b x, (fr a b).set v x = fr x b) (f3 : ∀ a b, (fr a b)[v]? = some a) (f4 : ∀ a b, (fr a b)[3]? = some b) : ∀ (js : List Nat) (t : Tree) (y : V), ∃ y',
    forGo (exB gl cf [.asg v (.tup [(.cStr [109, 97, 121, 98, 101]), (.var v), (.cmp .eq (.bin .mod (.var 3) (.cInt q)) (.cInt r))])]) 3 (js.map fun (j : Nat) => V.int (j : Int)) (fr t.v y) σ = .ok (.next, fr (chain q r js t).v y') σ
  | [], t, y => ⟨y, rfl⟩
  | j :: js, t, y => by
    obtain ⟨y', ih⟩ := chain_loop hq f1 f2 f3 f4 js (.maybe t ((j : Int).fmod q == r)) (.int (j : Int))
    refine ⟨y', ?_⟩
    rw [List.map_cons, forGo_next (Γ' := fr (Tree.maybe t ((j : Int).fmod q == r)).v (.int (j : Int))) (σ' := σ)]
    · exact ih
    · rw [f1]
      refine (exB_asg (v := (Tree.maybe t ((j : Int).fmod q == r)).v) (σ' := σ) ?_).trans (by rw [f2]; exact exB_nil0)
      rw [evE_tup, evEs_cons, evE_cStr, bind_ok, evEs_cons, evE_var, getV_t (f3 _ _), of_some, bind_ok, evEs_cons, evE_cmp, evE_bin, evE_var, getV_int (f4 _ _), of_some, bind_ok, evE_cInt, bind_ok, vBin_mod hq, of_some, bind_ok, evE_cInt, bind_ok, eq_ii, of_some, bind_ok, bind_ok, evEs_nil, bind_ok, bind_ok, bind_ok, bind_ok, tup3]
      rfl

theorem alike_read (H : H5 P) {e1 e2 : Ex} {u : List Nat} {t : Tree} {n : Nat} (hrg : RG gl P d u t n) (hn : n ≤ 30) (hu : u.length < 1000000) (h1 : evE gl (callF gl P (d + 4)) e1 Γ σ = .ok (.str u) σ) (h2 : ∀ σ, evE gl (callF gl P (d + 4)) e2 Γ σ = .ok t.v σ) (hdat : dat (d + 4) t.v) :
    ∃ σ', evE gl (callF gl P (d + 4)) (.call 21 [(.call 20 [e1]), e2]) Γ σ = .ok (.bool true) σ' := by
  obtain ⟨σ', hr⟩ := read_RG (σ := σ) H.r hrg hn hu
  refine ⟨σ', ?_⟩
  rw [evE_call, evEs_cons, evE_call, evEs_cons, h1, bind_ok, evEs_nil, bind_ok, bind_ok, hr, bind_ok, evEs_cons, h2, bind_ok, evEs_nil, bind_ok, bind_ok, bind_ok, call_alike H.a21 (d + 4) _ hdat]

/-! ### the wide pick -/
noncomputable def pk (c : Int) (k : Nat) : Tree := if ((k : Int).fmod 3 == 1) = true then .row [.take true [sign (c + 7 * (k : Int))], .take ((k : Int).fmod 2 == 0) [sign (c + 11 * (k : Int))]] else .take true [sign (c + 7 * (k : Int))]
theorem ok_sign {b : Bool} {c : Int} : (Tree.take b [sign c]).Ok := by
  rw [Tree.Ok]; exact ⟨by simp, fun x hx => by rw [List.mem_singleton.mp hx]; exact sign_mem _⟩
theorem pk_facts (c : Int) (k : Nat) : (pk c k).Ok ∧ (pk c k).dep ≤ 2 ∧ (pk c k).nod ≤ 3 ∧ (pk c k).bare = false := by
  unfold pk
  split
  · refine ⟨ok_row.mpr ⟨by simp, fun t ht => ?_⟩, ?_, ?_, ?_⟩
    · simp only [List.mem_cons, List.not_mem_nil, or_false] at ht
      rcases ht with rfl | rfl <;> exact ok_sign
    · rw [dep_row, Tree.deps, Tree.deps, Tree.deps, dep_take, dep_take]; decide
    · rw [nod_row, Tree.nods, Tree.nods, Tree.nods, nod_take, nod_take]; decide
    · rw [bare_row]; rfl
  · exact ⟨ok_sign, by rw [dep_take]; omega, by rw [nod_take]; omega, rfl⟩

theorem pick_loop (H : HS P) {c : Int} {a1 a5 : V} {p : Nat} : ∀ (n j : Nat) (PT : List Tree) (y3 y4 : V) (σ : Sg), σ[p]? = some (.lst (PT.map Tree.v)) → PT.length + n ≤ 1000 → j + n ≤ 1000 → ∃ y3' y4' σ', forGo (exB gl (callF gl P (d + 1)) [.asg 4 (.tup [(.cStr [116, 97, 107, 101]), (.cBool true), (.call 1 [(.bin .add (.var 0) (.bin .mul (.cInt 7) (.var 3)))])]),
      .ite (.cmp .eq (.bin .mod (.var 3) (.cInt 3)) (.cInt 1))
        [.asg 4 (.tup [(.cStr [114, 111, 119]), (.tup [(.var 4), (.tup [(.cStr [116, 97, 107, 101]), (.cmp .eq (.bin .mod (.var 3) (.cInt 2)) (.cInt 0)), (.call 1 [(.bin .add (.var 0) (.bin .mul (.cInt 11) (.var 3)))])])])])]
        [],
      .expr (.app (.var 2) (.var 4))]) 3 ((List.range' j n).map fun (i : Nat) => V.int (i : Int)) [.int c, a1, .ref p, y3, y4, a5] σ = .ok (.next, [.int c, a1, .ref p, y3', y4', a5]) σ' ∧ σ'[p]? = some (.lst ((PT ++ (List.range' j n).map (pk c)).map Tree.v))
  | 0, j, PT, y3, y4, σ, hp, _, _ => ⟨y3, y4, σ, rfl, by rw [List.range'_zero, List.map_nil, List.append_nil]; exact hp⟩
  | n + 1, j, PT, y3, y4, σ, hp, hl, hj => by
    have pl := (List.getElem?_eq_some_iff.mp hp).1
    have hm : ∀ q : Int, small q = true → vBin σ .mul (.int q) (.int (j : Int)) = some (.int (q * (j : Int))) := fun q hq => vBin_mul (by rw [hq]; rfl)
    have s4 : evE gl (callF gl P (d + 1)) (.tup [(.cStr [116, 97, 107, 101]), (.cBool true), (.call 1 [(.bin .add (.var 0) (.bin .mul (.cInt 7) (.var 3)))])]) [.int c, a1, .ref p, .int (j : Int), y4, a5] σ = .ok (Tree.take true [sign (c + 7 * (j : Int))]).v σ := by
      simp only [evE_cNone, evE_cBool, evE_cInt, evE_cStr, evE_var, evE_glob, evE_and, evE_or, evE_not, evE_neg, evE_bin, evE_cmp, evE_cmp2, evE_ite, evE_tup, evE_lst, evE_call, evE_bi, evE_join, evE_idx, evE_slice, evEs_nil, evEs_cons, evO_none, evO_some, getV, List.getElem?_cons_zero, List.getElem?_cons_succ, of_some, bind_ok, hm 7 rfl, vBin_add, call_sign H, tup3]
      rfl
    have t3 : ∀ {y4 : V}, evE gl (callF gl P (d + 1)) (.cmp .eq (.bin .mod (.var 3) (.cInt 3)) (.cInt 1)) [.int c, a1, .ref p, .int (j : Int), y4, a5] σ = .ok (.bool ((j : Int).fmod 3 == 1)) σ := by
      intros
      simp only [evE_cNone, evE_cBool, evE_cInt, evE_cStr, evE_var, evE_glob, evE_and, evE_or, evE_not, evE_neg, evE_bin, evE_cmp, evE_cmp2, evE_ite, evE_tup, evE_lst, evE_call, evE_bi, evE_join, evE_idx, evE_slice, evEs_nil, evEs_cons, evO_none, evO_some, getV, List.getElem?_cons_zero, List.getElem?_cons_succ, of_some, bind_ok, vBin_mod (a := (j : Int)) (b := 3) (σ := σ) (by decide), eq_ii]
    have one : ∀ r, exB gl (callF gl P (d + 1)) (.asg 4 (.tup [(.cStr [116, 97, 107, 101]), (.cBool true), (.call 1 [(.bin .add (.var 0) (.bin .mul (.cInt 7) (.var 3)))])]) :: .ite (.cmp .eq (.bin .mod (.var 3) (.cInt 3)) (.cInt 1))
        [.asg 4 (.tup [(.cStr [114, 111, 119]), (.tup [(.var 4), (.tup [(.cStr [116, 97, 107, 101]), (.cmp .eq (.bin .mod (.var 3) (.cInt 2)) (.cInt 0)), (.call 1 [(.bin .add (.var 0) (.bin .mul (.cInt 11) (.var 3)))])])])])]
        [] :: r) [.int c, a1, .ref p, .int (j : Int), y4, a5] σ = exB gl (callF gl P (d + 1)) r [.int c, a1, .ref p, .int (j : Int), (pk c j).v, a5] σ := fun r => by
      refine (exB_asg s4).trans ?_
      unfold pk
      cases hb : ((j : Int).fmod 3 == 1) with
      | false => rw [hb] at t3; exact exB_skip t3 rfl
      | true =>
        rw [hb] at t3
        refine exB_into t3 rfl ((exB_asg (v := (Tree.row [.take true [sign (c + 7 * (j : Int))], .take ((j : Int).fmod 2 == 0) [sign (c + 11 * (j : Int))]]).v) (σ' := σ) ?_).trans exB_nil0)
        show evE gl _ _ [.int c, a1, .ref p, .int (j : Int), .tup [.str [116, 97, 107, 101], .bool true, .str [sign (c + 7 * (j : Int))]], a5] σ = _
        simp only [evE_cNone, evE_cBool, evE_cInt, evE_cStr, evE_var, evE_glob, evE_and, evE_or, evE_not, evE_neg, evE_bin, evE_cmp, evE_cmp2, evE_ite, evE_tup, evE_lst, evE_call, evE_bi, evE_join, evE_idx, evE_slice, evEs_nil, evEs_cons, evO_none, evO_some, getV, List.getElem?_cons_zero, List.getElem?_cons_succ, of_some, bind_ok, vBin_mod (a := (j : Int)) (b := 2) (σ := σ) (by decide), eq_ii, hm 11 rfl, vBin_add, call_sign H, tup3, tup2]
        rfl
    have hv4 := getV_t (Γ := [.int c, a1, .ref p, .int (j : Int), (pk c j).v, a5]) (i := 4) (t := pk c j) rfl
    have ap := evE_appR (gl := gl) (cf := callF gl P (d + 1)) (Γ := [.int c, a1, .ref p, .int (j : Int), (pk c j).v, a5]) (o := .var 2) (x := .var 4) (v := (pk c j).v) (σ₁ := σ) rfl hp (by rw [evE_var, hv4, of_some]) hp (by rw [List.length_map]; unfold roomy; omega)
    rw [show PT.map Tree.v ++ [(pk c j).v] = (PT ++ [pk c j]).map Tree.v by rw [List.map_append]; rfl] at ap
    obtain ⟨z3, z4, σ2, ih, hp2⟩ := pick_loop H (c := c) (a1 := a1) (a5 := a5) (p := p) n (j + 1) (PT ++ [pk c j]) (.int (j : Int)) (pk c j).v _ (set_eq pl) (by rw [List.length_append]; simp only [List.length_cons, List.length_nil]; omega) (by omega)
    refine ⟨z3, z4, σ2, ?_, ?_⟩
    · rw [List.range'_succ, List.map_cons]
      exact (forGo_next ((one _).trans ((exB_expr ap).trans exB_nil0))).trans ih
    · rw [hp2, List.range'_succ, List.map_cons, List.append_assoc]; rfl

/-- what the wide pick is like -/
structure WideOk (t : Tree) : Prop where
  ok : t.Ok
  dep : t.dep ≤ 5
  nod : t.nod ≤ 400
  bare : t.bare = false

theorem call_pickBy (H : H5 P) (c : Int) {n : Nat} (h0 : 1 ≤ n) (hn : n ≤ 100) : ∃ T σ', callF gl P (d + 2) 36 [.int c, .int (n : Int)] σ = .ok (Tree.v T) σ' ∧ WideOk T := by
  have p0 : ∀ {σ : Sg}, putL true [] σ = .ok (.ref σ.length) (σ ++ [.lst []]) := putL_t (by simp [roomy])
  obtain ⟨y3, y4, σ1, hlp, hp⟩ := pick_loop (gl := gl) (d := d) H.t.s (c := c) (a1 := .int (n : Int)) (a5 := .undef) (p := σ.length) n 0 [] .undef .undef (σ ++ [.lst []]) (by simp) (by simp; omega) (by omega)
  rw [List.nil_append] at hp
  obtain ⟨q1, q2⟩ := fmod_range (c.fdiv 96) (b := 75) (by decide)
  obtain ⟨m, hm⟩ : ∃ m : Nat, 15 + (c.fdiv 96).fmod 75 = (m : Int) := ⟨(15 + (c.fdiv 96).fmod 75).toNat, by omega⟩
  let L : List Nat := (List.range m).map fun (k : Nat) => sign (c + 5 * (k : Int))
  have hLl : L.length = m := by show ((List.range m).map _).length = m; rw [List.length_map, List.length_range]
  have s5 : evE gl (callF gl P (d + 1)) (.join (.cStr []) (.comp false (.call 1 [(.bin .add (.var 0) (.bin .mul (.cInt 5) (.var 6)))]) .rng1 (.bin .add (.cInt 15) (.bin .mod (.bin .fdiv (.var 0) (.cInt 96)) (.cInt 75))) .cNone none)) [.int c, .int (n : Int), .ref σ.length, y3, y4, .undef] σ1 = .ok (.str L) σ1 := by
    have hc : evE gl (callF gl P (d + 1)) (.comp false (.call 1 [(.bin .add (.var 0) (.bin .mul (.cInt 5) (.var 6)))]) .rng1 (.bin .add (.cInt 15) (.bin .mod (.bin .fdiv (.var 0) (.cInt 96)) (.cInt 75))) .cNone none) [.int c, .int (n : Int), .ref σ.length, y3, y4, .undef] σ1 = .ok (.lst ((List.range m).map fun (k : Nat) => V.str [sign (c + 5 * (k : Int))])) σ1 := by
      refine evE_compM (x := .int (m : Int)) (y := .none) (σ₁ := σ1) ?_ evE_cNone (items_rng (by omega)) (fun k hk => ?_) (by rw [List.length_range]; unfold roomy; omega)
      · simp only [evE_cNone, evE_cBool, evE_cInt, evE_cStr, evE_var, evE_glob, evE_and, evE_or, evE_not, evE_neg, evE_bin, evE_cmp, evE_cmp2, evE_ite, evE_tup, evE_lst, evE_call, evE_bi, evE_join, evE_idx, evE_slice, evEs_nil, evEs_cons, evO_none, evO_some, getV, List.getElem?_cons_zero, List.getElem?_cons_succ, of_some, bind_ok, vBin_fdiv (a := c) (b := 96) (σ := σ1) rfl (by decide), vBin_mod (b := 75) (σ := σ1) (show (75 : Int) ≠ 0 by decide), vBin_add, hm]
      · have hk' := List.mem_range.mp hk
        have hmm : vBin σ1 .mul (.int 5) (.int (k : Int)) = some (.int (5 * (k : Int))) := vBin_mul rfl
        simp only [List.cons_append, List.nil_append, evE_cNone, evE_cBool, evE_cInt, evE_cStr, evE_var, evE_glob, evE_and, evE_or, evE_not, evE_neg, evE_bin, evE_cmp, evE_cmp2, evE_ite, evE_tup, evE_lst, evE_call, evE_bi, evE_join, evE_idx, evE_slice, evEs_nil, evEs_cons, evO_none, evO_some, getV, List.getElem?_cons_zero, List.getElem?_cons_succ, of_some, bind_ok, hmm, vBin_add, call_sign H.t.s]
    rw [evE_join, evE_cStr, bind_ok, hc, bind_ok, vJoin_signs (g := fun (k : Nat) => sign (c + 5 * (k : Int))) (by rw [List.length_range]; unfold roomy; omega), of_some]
  have hLs : ∀ x ∈ L, x ∈ signs := fun x hx => by obtain ⟨k, _, rfl⟩ := List.mem_map.mp hx; exact sign_mem _
  generalize L = L at hLl s5 hLs
  let PT : List Tree := (List.range' 0 n).map (pk c)
  have hPl : PT.length = n := by show ((List.range' 0 n).map (pk c)).length = n; rw [List.length_map, List.length_range']
  have hPT : ∀ t ∈ PT, t.Ok ∧ t.dep ≤ 2 ∧ t.nod ≤ 3 ∧ t.bare = false := fun t ht => by obtain ⟨k, _, rfl⟩ := List.mem_map.mp ht; exact pk_facts c k
  have hp : σ1[σ.length]? = some (.lst (PT.map Tree.v)) := hp
  generalize PT = PT at hPl hPT hp
  have okL : (Tree.take (c.fmod 2 == 0) L).Ok := by rw [Tree.Ok]; exact ⟨by omega, hLs⟩
  refine ⟨.pick (PT ++ [Tree.take (c.fmod 2 == 0) L]), σ1, callF_ret (D := d_l_pick_by) (Γ' := [.int c, .int (n : Int), .ref σ.length, y3, y4, .str L]) H.a36 rfl ((exB_asg (v := .ref σ.length) (σ' := σ ++ [Cell.lst []]) ?_).trans ((exB_next (σ' := σ1) ((exS_for (x := .int (n : Int)) (y := .none) (σ₁ := σ ++ [Cell.lst []]) (σ₂ := σ ++ [Cell.lst []]) rfl evE_cNone (items_rng (by omega))).trans ?_)).trans ((exB_asg s5).trans (exB_rets (σ' := σ1) ?_)))), ?_⟩
  · simp only [evE_cNone, evE_cBool, evE_cInt, evE_cStr, evE_var, evE_glob, evE_and, evE_or, evE_not, evE_neg, evE_bin, evE_cmp, evE_cmp2, evE_ite, evE_tup, evE_lst, evE_call, evE_bi, evE_join, evE_idx, evE_slice, evEs_nil, evEs_cons, evO_none, evO_some, bind_ok, p0]
  · rw [List.range_eq_range']; exact hlp
  · have ha : vBin σ1 .add (.ref σ.length) (.lst [(Tree.take (c.fmod 2 == 0) L).v]) = some (.lst ((PT ++ [Tree.take (c.fmod 2 == 0) L]).map Tree.v)) := by
      rw [add_refl hp (by rw [List.length_map]; simp only [List.length_cons, List.length_nil]; unfold roomy; omega), List.map_append]; rfl
    have ha' : vBin σ1 .add (.ref σ.length) (.lst [.tup [.str [116, 97, 107, 101], .bool (c.fmod 2 == 0), .str L]]) = some (.lst ((PT ++ [Tree.take (c.fmod 2 == 0) L]).map Tree.v)) := ha
    rw [v_pick]
    show evE gl _ _ [.int c, .int (n : Int), .ref σ.length, y3, y4, .str L] σ1 = _
    simp only [evE_cNone, evE_cBool, evE_cInt, evE_cStr, evE_var, evE_glob, evE_and, evE_or, evE_not, evE_neg, evE_bin, evE_cmp, evE_cmp2, evE_ite, evE_tup, evE_lst, evE_call, evE_bi, evE_join, evE_idx, evE_slice, evEs_nil, evEs_cons, evO_none, evO_some, getV, List.getElem?_cons_zero, List.getElem?_cons_succ, of_some, bind_ok, vBin_mod (a := c) (b := 2) (σ := σ1) (by decide), eq_ii, tup3, putL_1, ha', bi_tuple, tup2]
  · have mem : ∀ t ∈ PT ++ [Tree.take (c.fmod 2 == 0) L], t.Ok ∧ t.dep ≤ 2 ∧ t.nod ≤ 3 ∧ t.bare = false := fun t ht => by
      rcases List.mem_append.mp ht with q | q
      · exact hPT t q
      · rw [List.mem_singleton.mp q]; exact ⟨okL, by rw [dep_take]; omega, by rw [nod_take]; omega, rfl⟩
    have len : (PT ++ [Tree.take (c.fmod 2 == 0) L]).length = n + 1 := by rw [List.length_append, hPl]; rfl
    generalize PT ++ [Tree.take (c.fmod 2 == 0) L] = Q at mem len
    refine ⟨ok_pick.mpr ⟨⟨by omega, by omega⟩, fun t ht => (mem t ht).1⟩, ?_, ?_, ?_⟩
    · rw [dep_pick]; have := deps_le fun t ht => (mem t ht).2.1; omega
    · rw [nod_pick]
      have : ∀ (Q : List Tree), (∀ t ∈ Q, t.nod ≤ 3) → Tree.nods Q ≤ 3 * Q.length := by
        intro Q
        induction Q with
        | nil => intro _; rw [Tree.nods]; omega
        | cons t r ih => intro h; rw [Tree.nods, List.length_cons]; have := ih fun u hu => h u (List.mem_cons_of_mem _ hu); have := h t List.mem_cons_self; omega
      have := this Q fun t ht => (mem t ht).2.2.1
      omega
    · rw [bare_pick]
      refine Bool.eq_false_iff.mpr fun h => ?_
      obtain ⟨t, ht, hb⟩ := List.any_eq_true.mp h
      rw [(mem t ht).2.2.2] at hb; cases hb

/-! ### _law_pick_right -/
theorem pc_sign (H : HR P) {c : Nat} (h : c ∉ [40, 41, 124, 42, 63, 46, 91, 93, 126]) (h33 : c ≠ 33) : Pc gl P d [c] (.take true [c]) 0 := Pc.take H (.sign c h) fun e => h33 (by injection e)

theorem call_pickRight (H : H5 P) (hgl0 : gl[0]? = some (.int 30)) (hgl1 : gl[1]? = some (.str special)) {t : Tree} (W : WideOk t) (hd : 50 ≤ d) : ∃ σ', callF gl P (d + 5) 37 [t.v] σ = .ok (.bool true) σ' := by
  have hlen := show_len t W.ok
  have hnod := W.nod
  have hdep := W.dep
  have h35 : ∀ σ, callF gl P (d + 4) 35 [t.v] σ = .ok (.str t.show) σ := fun σ => call_lshown H.w t.dep (d + 4) t (Nat.le_refl _) (by omega) W.ok (by omega)
  have h32 : ∀ σ, callF gl P (d + 4) 32 [t.v] σ = .ok (.str t.show) σ := fun σ => call_shown H.w hgl1 t.dep (d + 4) t (Nat.le_refl _) (by omega) W.ok (by omega)
  obtain ⟨rg, _⟩ := show_rd (gl := gl) (d := d) H.r hgl0 t.dep t (Nat.le_refl _) (by omega) W.ok
  have dt : dat (2 * t.dep) t.v := dat_tree t.dep t (Nat.le_refl _) W.ok
  generalize hu : t.show = u at hlen h35 h32 rg
  have hub : u.length ≤ 200000 := by clear h35 h32 rg dt; omega
  have hub2 : u.length < 1000000 := Nat.lt_of_le_of_lt hub (by decide)
  have hd30 : 30 ≤ d + 4 := by clear h35 h32 rg dt hlen hub hub2; omega
  have hdd : 2 * t.dep ≤ 10 := Nat.mul_le_mul_left 2 hdep
  have hd1 : t.dep - 1 + 1 ≤ 6 := by clear h35 h32 rg dt hlen hub hub2 hd; omega
  have hd0 : t.dep - 1 ≤ 30 := Nat.le_trans (Nat.sub_le _ _) (Nat.le_trans hdep (by decide))
  clear hlen
  have hv0 : ∀ {y : V}, getV [t.v, y] 0 = some t.v := fun {y} => getV_t (Γ := [t.v, y]) (i := 0) rfl
  have ev0 : ∀ {y : V} σ, evE gl (callF gl P (d + 4)) (.var 0) [t.v, y] σ = .ok t.v σ := fun σ => by rw [evE_var, hv0, of_some]
  have s1 : evE gl (callF gl P (d + 4)) (.call 35 [(.var 0)]) [t.v, .undef] σ = .ok (.str u) σ := by rw [evE_call, evEs_cons, ev0, bind_ok, evEs_nil, bind_ok, bind_ok, h35]
  have s32 : ∀ σ, evE gl (callF gl P (d + 4)) (.call 32 [(.var 0)]) [t.v, .str u] σ = .ok (.str u) σ := fun σ => by rw [evE_call, evEs_cons, ev0, bind_ok, evEs_nil, bind_ok, bind_ok, h32]
  -- the first reading
  obtain ⟨σ1, r1⟩ := alike_read (Γ := [t.v, .str u]) (σ := σ) (e1 := .var 1) (e2 := .var 0) H rg hd0 hub2 rfl ev0 (dat_mono (Nat.le_trans hdd (Nat.le_trans (by decide) hd30)) dt)
  have t1 : evE gl (callF gl P (d + 4)) (.or (.cmp .ne (.call 32 [(.var 0)]) (.var 1)) (.not (.call 21 [(.call 20 [(.var 1)]), (.var 0)]))) [t.v, .str u] σ = .ok (.bool false) σ1 := by
    refine or_f ?_ (not_s r1)
    rw [evE_cmp, s32, bind_ok, evE_var, show getV [t.v, .str u] 1 = some (.str u) from rfl, of_some, bind_ok, ne_ss, of_some, bind_ok, beq_self_eq_true]; rfl
  -- (due)*a
  have rgA : RG gl P d ([40] ++ u ++ [41, 42, 97]) (.row [.many t true, .take true [97]]) 6 := by
    have pa : Pc gl P d (40 :: (u ++ [41]) ++ rp 42 true) (Mine.rep 42 t true) (t.dep - 1 + 1) := Pc.rep H.r (rg.bracket H.r hgl0) (by intro x; cases x) (by intro x; cases x) (.inl rfl) (fun _ => W.bare) (by omega)
    have := RG.pcs (gl := gl) (P := P) (d := d) [(40 :: (u ++ [41]) ++ rp 42 true, Mine.rep 42 t true), ([97], .take true [97])] (n := 6) (fun p hp => by
      simp only [List.mem_cons, List.not_mem_nil, or_false] at hp
      rcases hp with rfl | rfl
      · exact pa.up hd1
      · exact (pc_sign H.r (by decide) (by decide)).up (Nat.zero_le _)) (by simp)
    simp only [List.flatMap_cons, List.flatMap_nil, List.append_nil, rp, if_true] at this
    rw [show [40] ++ u ++ [41, 42, 97] = 40 :: (u ++ [41]) ++ [42] ++ [97] by simp]
    exact this
  have dA : dat 30 (Tree.row [.many t true, .take true [97]]).v := by
    rw [v_row]
    refine dat_seq (n := 28) (by simp) fun x hx => ?_
    simp only [List.mem_cons, List.not_mem_nil, or_false] at hx
    rcases hx with rfl | rfl
    · exact dat_one (n := 26) (dat_mono (Nat.le_trans hdd (by decide)) dt)
    · exact dat_mono (by decide) dat_take
  have e2A : ∀ σ, evE gl (callF gl P (d + 4)) (.tup [(.cStr [114, 111, 119]), (.tup [(.tup [(.cStr [109, 97, 110, 121]), (.var 0), (.cBool true)]), (.tup [(.cStr [116, 97, 107, 101]), (.cBool true), (.cStr [97])])])]) [t.v, .str u] σ = .ok (Tree.row [.many t true, .take true [97]]).v σ := fun σ => by
    simp only [evE_cNone, evE_cBool, evE_cInt, evE_cStr, evE_var, evE_glob, evE_and, evE_or, evE_not, evE_neg, evE_bin, evE_cmp, evE_cmp2, evE_ite, evE_tup, evE_lst, evE_call, evE_bi, evE_join, evE_idx, evE_slice, evEs_nil, evEs_cons, evO_none, evO_some, hv0, of_some, bind_ok, tup3, tup2]; rfl
  obtain ⟨σ2, r2⟩ := alike_read (Γ := [t.v, .str u]) (σ := σ1) H rgA (by decide) (lt3 hub (by decide) (by decide)) (add3 (e := .var 1) rfl hub (by decide) (by decide)) e2A (dat_mono hd30 dA)
  -- b(due)
  have rgB : RG gl P d ([98, 40] ++ u ++ [41]) (.row [.take true [98], t]) 6 := by
    have := RG.pcs (gl := gl) (P := P) (d := d) [([98], .take true [98]), (40 :: (u ++ [41]), t)] (n := 6) (fun p hp => by
      simp only [List.mem_cons, List.not_mem_nil, or_false] at hp
      rcases hp with rfl | rfl
      · exact (pc_sign H.r (by decide) (by decide)).up (Nat.zero_le _)
      · exact (rg.pc H.r hgl0).up hd1) (by simp)
    simp only [List.flatMap_cons, List.flatMap_nil, List.append_nil] at this
    rw [show [98, 40] ++ u ++ [41] = [98] ++ 40 :: (u ++ [41]) by simp]
    exact this
  have dB : dat 30 (Tree.row [.take true [98], t]).v := by
    rw [v_row]
    refine dat_seq (n := 28) (by simp) fun x hx => ?_
    simp only [List.mem_cons, List.not_mem_nil, or_false] at hx
    rcases hx with rfl | rfl
    · exact dat_mono (by decide) dat_take
    · exact dat_mono (Nat.le_trans hdd (by decide)) dt
  have e2B : ∀ σ, evE gl (callF gl P (d + 4)) (.tup [(.cStr [114, 111, 119]), (.tup [(.tup [(.cStr [116, 97, 107, 101]), (.cBool true), (.cStr [98])]), (.var 0)])]) [t.v, .str u] σ = .ok (Tree.row [.take true [98], t]).v σ := fun σ => by
    simp only [evE_cNone, evE_cBool, evE_cInt, evE_cStr, evE_var, evE_glob, evE_and, evE_or, evE_not, evE_neg, evE_bin, evE_cmp, evE_cmp2, evE_ite, evE_tup, evE_lst, evE_call, evE_bi, evE_join, evE_idx, evE_slice, evEs_nil, evEs_cons, evO_none, evO_some, hv0, of_some, bind_ok, tup3, tup2]; rfl
  obtain ⟨σ3, r3⟩ := alike_read (Γ := [t.v, .str u]) (σ := σ2) H rgB (by decide) (lt3 hub (by decide) (by decide)) (add3 (e := .var 1) rfl hub (by decide) (by decide)) e2B (dat_mono hd30 dB)
  exact ⟨σ3, callF_ret (D := d_l_pick_right_v05) (Γ' := [t.v, .str u]) H.a37 rfl ((exB_asg s1).trans ((exB_skip t1 rfl).trans ((exB_skip (not_s r2) rfl).trans (exB_rets r3))))⟩
end
end Mine

namespace Mine

/-- the nested text -/
noncomputable def nestT : Nat → List Nat
  | 0 => [97, 124, 98]
  | j + 1 => (40 :: (nestT j ++ [41])) ++ rp 63 ((j : Int).fmod 2 == 1)
noncomputable def ab : Tree := .pick [.take true [97], .take true [98]]
theorem ok_ab : ab.Ok := by
  refine ok_pick.mpr ⟨by simp, fun t ht => ?_⟩
  simp only [List.mem_cons, List.not_mem_nil, or_false] at ht
  rcases ht with rfl | rfl <;> (rw [Tree.Ok]; exact ⟨by simp, by decide⟩)
theorem dep_ab : ab.dep = 2 := by unfold ab; rw [dep_pick, Tree.deps, Tree.deps, Tree.deps, dep_take, dep_take]; rfl

/-- what the law writes of the nested text -/
noncomputable def tails (n : Nat) : List Nat := (List.range n).flatMap fun (k : Nat) => [41, 63] ++ List.replicate (1 - (k : Int).fmod 2).toNat 33
theorem nest_eq : ∀ n, List.replicate n 40 ++ [97, 124, 98] ++ tails n = nestT n
  | 0 => rfl
  | n + 1 => by
    have h := nest_eq n
    have e : tails (n + 1) = tails n ++ ([41, 63] ++ List.replicate (1 - (n : Int).fmod 2).toNat 33) := by
      unfold tails; rw [List.range_succ, List.flatMap_append]; simp
    obtain ⟨q1, q2⟩ := fmod_range (n : Int) (b := 2) (by decide)
    have e2 : [41, 63] ++ List.replicate (1 - (n : Int).fmod 2).toNat 33 = [41] ++ rp 63 ((n : Int).fmod 2 == 1) := by
      by_cases hb : (n : Int).fmod 2 = 1
      · rw [hb]; rfl
      · rw [beq_eq_false_iff_ne.mpr hb, show (n : Int).fmod 2 = 0 by omega]; rfl
    rw [e, e2, nestT, ← h, List.replicate_succ]
    simp
theorem nest_len : ∀ n, (nestT n).length ≤ 3 + 4 * n
  | 0 => by simp [nestT]
  | n + 1 => by
    have := nest_len n
    have := rp_len (c := 63) (e := ((n : Int).fmod 2 == 1))
    rw [nestT, List.length_append, List.length_cons, List.length_append]; simp only [List.length_cons, List.length_nil]; omega

theorem nat_of5 {x : Int} {b : Nat} (hb : 0 < b) : ∃ n : Nat, n < b ∧ x.fmod (b : Int) = (n : Int) := by
  obtain ⟨h1, h2⟩ := fmod_range x (b := (b : Int)) (by omega)
  exact ⟨(x.fmod b).toNat, by omega, by omega⟩

section
variable {gl : List V} {cf : CF} {σ σ' : Sg} {Γ : Fm} {P : List Def} {d : Nat}

theorem nest_rg (H : HR P) (hgl : gl[0]? = some (.int 30)) (hd : 100 ≤ d) : ∀ n, n ≤ 30 → RG gl P d (nestT n) (chain 2 1 (List.range n) ab) n
  | 0, _ => by
    have := RG.alts (gl := gl) (P := P) (d := d) (n := 0) H [([97], .take true [97]), ([98], .take true [98])] (by simp) (fun p hp => by
      simp only [List.mem_cons, List.not_mem_nil, or_false] at hp
      rcases hp with rfl | rfl <;> exact Alt.pc (pc_sign H (by decide) (by decide))) (by simp)
    exact this
  | n + 1, hn => by
    have ih := nest_rg H hgl hd n (by omega)
    rw [List.range_succ, chain_snoc, nestT]
    obtain ⟨_, hdep, _⟩ := chain_facts (q := 2) (r := 1) (List.range n) ab ok_ab
    rw [List.length_range, dep_ab] at hdep
    exact (Pc.rep H (c := 63) (e := ((n : Int).fmod 2 == 1)) (ih.bracket H hgl) (by intro x; cases x) (by intro x; cases x) (.inr rfl) (fun x => by cases x) (by omega)).rg

/-- the law behind the making of the tree -/
theorem law05_rest (H : H5 P) (hgl0 : gl[0]? = some (.int 30)) (hgl1 : gl[1]? = some (.str special)) {ys : List V} {l : List Nat} {c1 c2 : Int} {T : Tree} {y3 : V} (hd : 300 ≤ d)
    (hc1 : ∀ σ, callF gl P (d + 6) 0 [.lst ys, .int 1] σ = .ok (.int c1) σ) (hc2 : ∀ σ, callF gl P (d + 6) 0 [.lst ys, .int 2] σ = .ok (.int c2) σ) (ok : T.Ok) (hdep : T.dep ≤ 28) (hnod : T.nod ≤ 100) :
    ∃ Γ σ', exB gl (callF gl P (d + 6)) (d_law_v05.body.drop 3) [.lst ys, .str l, T.v, y3, .undef, .undef, .undef, .undef, .undef, .undef] σ = .ok (.ret (.bool true), Γ) σ' := by
  have hlen := show_len T ok
  have h35 : ∀ (t : Tree), t.Ok → t.dep ≤ 100 → t.nod ≤ 1000 → ∀ σ, callF gl P (d + 6) 35 [t.v] σ = .ok (.str t.show) σ := fun t h1 h2 h3 σ => call_lshown H.w t.dep (d + 6) t (Nat.le_refl _) (by omega) h1 (by omega)
  have h32 : ∀ (t : Tree), t.Ok → t.dep ≤ 100 → t.nod ≤ 1000 → ∀ σ, callF gl P (d + 6) 32 [t.v] σ = .ok (.str t.show) σ := fun t h1 h2 h3 σ => call_shown H.w hgl1 t.dep (d + 6) t (Nat.le_refl _) (by omega) h1 (by omega)
  obtain ⟨rg, _⟩ := show_rd (gl := gl) (d := d + 2) H.r hgl0 T.dep T (Nat.le_refl _) (by omega) ok
  have dt : dat (2 * T.dep) T.v := dat_tree T.dep T (Nat.le_refl _) ok
  have hT35 := h35 T ok (Nat.le_trans hdep (by decide)) (Nat.le_trans hnod (by decide))
  have hT32 := h32 T ok (Nat.le_trans hdep (by decide)) (Nat.le_trans hnod (by decide))
  generalize hu : T.show = u at hlen hT35 hT32 rg
  have hub : u.length ≤ 200000 := by clear h35 h32 hT35 hT32 rg dt hc1 hc2; omega
  have hub2 : u.length < 1000000 := Nat.lt_of_le_of_lt hub (by decide)
  have hdd : 2 * T.dep ≤ 56 := Nat.mul_le_mul_left 2 hdep
  have h66 : 66 ≤ d + 6 := Nat.le_trans (by decide) (Nat.le_trans hd (Nat.le_add_right _ _))
  have hdt : dat (d + 6) T.v := dat_mono (Nat.le_trans hdd (Nat.le_trans (by decide) h66)) dt
  have hd29 : T.dep - 1 + 1 ≤ 29 := Nat.le_trans (Nat.add_le_add_right (Nat.sub_le _ _) 1) (Nat.succ_le_succ hdep)
  have hd0 : T.dep - 1 ≤ 30 := Nat.le_trans (Nat.sub_le _ _) (Nat.le_trans hdep (by decide))
  clear hlen
  -- the tree's slot
  have ev2 : ∀ {y3 y4 y5 y6 y7 y8 y9 : V} (σ : Sg), evE gl (callF gl P (d + 6)) (.var 2) [.lst ys, .str l, T.v, y3, y4, y5, y6, y7, y8, y9] σ = .ok T.v σ := fun {y3 y4 y5 y6 y7 y8 y9} σ => by
    rw [evE_var, getV_t (Γ := [.lst ys, .str l, T.v, y3, y4, y5, y6, y7, y8, y9]) (i := 2) (t := T) rfl, of_some]
  have s4 : ∀ {y4 y5 y6 y7 y8 y9 : V} σ, evE gl (callF gl P (d + 6)) (.call 35 [(.var 2)]) [.lst ys, .str l, T.v, y3, y4, y5, y6, y7, y8, y9] σ = .ok (.str u) σ := fun σ => by rw [evE_call, evEs_cons, ev2, bind_ok, evEs_nil, bind_ok, bind_ok, hT35]
  have s5 : ∀ {y4 y5 y6 y7 y8 y9 : V} σ, evE gl (callF gl P (d + 6)) (.call 32 [(.var 2)]) [.lst ys, .str l, T.v, y3, y4, y5, y6, y7, y8, y9] σ = .ok (.str u) σ := fun σ => by rw [evE_call, evEs_cons, ev2, bind_ok, evEs_nil, bind_ok, bind_ok, hT32]
  -- read(due)
  obtain ⟨σ1, r1⟩ := alike_read (d := d + 2) (Γ := [.lst ys, .str l, T.v, y3, .str u, .str u, .undef, .undef, .undef, .undef]) (σ := σ) (e1 := .var 4) (e2 := .var 2) H rg hd0 hub2 rfl ev2 hdt
  have t1 : evE gl (callF gl P (d + 6)) (.or (.not (.bi .isStr [(.var 5)])) (.or (.cmp .ne (.var 5) (.var 4)) (.not (.call 21 [(.call 20 [(.var 4)]), (.var 2)])))) [.lst ys, .str l, T.v, y3, .str u, .str u, .undef, .undef, .undef, .undef] σ = .ok (.bool false) σ1 := by
    refine or_f ?_ (or_f ?_ (not_s r1))
    · simp only [evE_cNone, evE_cBool, evE_cInt, evE_cStr, evE_var, evE_glob, evE_and, evE_or, evE_not, evE_neg, evE_bin, evE_cmp, evE_cmp2, evE_ite, evE_tup, evE_lst, evE_call, evE_bi, evE_join, evE_idx, evE_slice, evEs_nil, evEs_cons, evO_none, evO_some, getV, List.getElem?_cons_zero, List.getElem?_cons_succ, of_some, bind_ok, bi_isStr, true_b]; rfl
    · simp only [evE_cNone, evE_cBool, evE_cInt, evE_cStr, evE_var, evE_glob, evE_and, evE_or, evE_not, evE_neg, evE_bin, evE_cmp, evE_cmp2, evE_ite, evE_tup, evE_lst, evE_call, evE_bi, evE_join, evE_idx, evE_slice, evEs_nil, evEs_cons, evO_none, evO_some, getV, List.getElem?_cons_zero, List.getElem?_cons_succ, of_some, bind_ok, ne_ss, beq_self_eq_true]; rfl
  -- deep
  obtain ⟨p1, p2⟩ := fmod_range (c2.fdiv 16) (b := 60) (by decide)
  obtain ⟨m, hm⟩ : ∃ m : Nat, (c2.fdiv 16).fmod 60 = (m : Int) := ⟨((c2.fdiv 16).fmod 60).toNat, by omega⟩
  obtain ⟨y3a, hlp6⟩ := chain_loop (gl := gl) (cf := callF gl P (d + 6)) (σ := σ1) (fr := fun a b => [.lst ys, .str l, T.v, b, .str u, .str u, a, .undef, .undef, .undef]) (v := 6) (q := 2) (r := 0) (by omega) (fun _ _ _ => rfl) (fun _ _ _ => rfl) (fun _ _ => rfl) (fun _ _ => rfl) (List.range m) T y3
  obtain ⟨g1, g2, g3⟩ := chain_facts (q := 2) (r := 0) (List.range m) T ok
  rw [List.length_range] at g2 g3
  have hd35 := h35 _ g1 (by omega) (by omega)
  have hd32 := h32 _ g1 (by omega) (by omega)
  generalize chain 2 0 (List.range m) T = D at hlp6 g1 g2 g3 hd35 hd32
  have ev6 : evE gl (callF gl P (d + 6)) (.var 6) [.lst ys, .str l, T.v, y3a, .str u, .str u, D.v, .undef, .undef, .undef] σ1 = .ok D.v σ1 := by
    rw [evE_var, getV_t (Γ := [.lst ys, .str l, T.v, y3a, .str u, .str u, D.v, .undef, .undef, .undef]) (i := 6) (t := D) rfl, of_some]
  have t6 : evE gl (callF gl P (d + 6)) (.cmp .ne (.call 32 [(.var 6)]) (.call 35 [(.var 6)])) [.lst ys, .str l, T.v, y3a, .str u, .str u, D.v, .undef, .undef, .undef] σ1 = .ok (.bool false) σ1 := by
    rw [evE_cmp, evE_call, evEs_cons, ev6, bind_ok, evEs_nil, bind_ok, bind_ok, hd32, bind_ok, evE_call, evEs_cons, ev6, bind_ok, evEs_nil, bind_ok, bind_ok, hd35, bind_ok, ne_ss, beq_self_eq_true]; rfl
  have sm : evE gl (callF gl P (d + 6)) (.bin .mod (.bin .fdiv (.call 0 [(.var 0), (.cInt 2)]) (.cInt 16)) (.cInt 60)) [.lst ys, .str l, T.v, y3, .str u, .str u, T.v, .undef, .undef, .undef] σ1 = .ok (.int (m : Int)) σ1 := by
    simp only [evE_cNone, evE_cBool, evE_cInt, evE_cStr, evE_var, evE_glob, evE_and, evE_or, evE_not, evE_neg, evE_bin, evE_cmp, evE_cmp2, evE_ite, evE_tup, evE_lst, evE_call, evE_bi, evE_join, evE_idx, evE_slice, evEs_nil, evEs_cons, evO_none, evO_some, getV, List.getElem?_cons_zero, List.getElem?_cons_succ, of_some, bind_ok, hc2, vBin_fdiv (a := c2) (b := 16) (σ := σ1) rfl (by decide), vBin_mod (b := 60) (σ := σ1) (show (60 : Int) ≠ 0 by decide), hm]
  -- ((due))
  have v4 : ∀ {y6 y7 y8 y9 : V} {σ : Sg}, evE gl (callF gl P (d + 6)) (.var 4) [.lst ys, .str l, T.v, y3a, .str u, .str u, y6, y7, y8, y9] σ = .ok (.str u) σ := rfl
  have rg2 : RG gl P (d + 2) ([40, 40] ++ u ++ [41, 41]) T (T.dep + 1) := by
    have := ((rg.pc H.r hgl0).rg.pc H.r hgl0).rg
    have hp := dep_pos T
    rw [show [40, 40] ++ u ++ [41, 41] = 40 :: (40 :: (u ++ [41]) ++ [41]) by simp]
    exact this.up (by rw [Nat.sub_add_cancel hp]; exact Nat.le_refl _)
  obtain ⟨σ2, r2⟩ := alike_read (d := d + 2) (Γ := [.lst ys, .str l, T.v, y3a, .str u, .str u, D.v, .undef, .undef, .undef]) (σ := σ1) (e1 := .bin .add (.bin .add (.cStr [40, 40]) (.var 4)) (.cStr [41, 41])) (e2 := .var 2) H rg2 (Nat.le_trans (Nat.succ_le_succ hdep) (by decide)) (lt3 hub (by decide) (by decide)) (add3 v4 hub (by decide) (by decide)) ev2 hdt
  -- the wide pick
  obtain ⟨n5, hn5, hn5'⟩ := nat_of5 (x := c1.fdiv 55) (b := 60) (by decide)
  obtain ⟨W, σ3, h36, hW⟩ := call_pickBy (gl := gl) (d := d + 4) (σ := σ2) H c2 (n := n5 + 8) (by omega) (by omega)
  obtain ⟨σ4, h37⟩ := call_pickRight (gl := gl) (d := d + 1) (σ := σ3) H hgl0 hgl1 hW (by omega)
  have t7 : evE gl (callF gl P (d + 6)) (.not (.call 37 [(.call 36 [(.call 0 [(.var 0), (.cInt 2)]), (.bin .add (.cInt 8) (.bin .mod (.bin .fdiv (.call 0 [(.var 0), (.cInt 1)]) (.cInt 55)) (.cInt 60)))])])) [.lst ys, .str l, T.v, y3a, .str u, .str u, D.v, .undef, .undef, .undef] σ2 = .ok (.bool false) σ4 := by
    refine not_s (p := true) ?_
    have e60 : vBin σ2 .mod (.int (c1.fdiv 55)) (.int 60) = some (.int (n5 : Int)) := by rw [← hn5']; exact vBin_mod (by omega)
    have e8 : (8 : Int) + (n5 : Int) = ((n5 + 8 : Nat) : Int) := by omega
    simp only [evE_cNone, evE_cBool, evE_cInt, evE_cStr, evE_var, evE_glob, evE_and, evE_or, evE_not, evE_neg, evE_bin, evE_cmp, evE_cmp2, evE_ite, evE_tup, evE_lst, evE_call, evE_bi, evE_join, evE_idx, evE_slice, evEs_nil, evEs_cons, evO_none, evO_some, getV, List.getElem?_cons_zero, List.getElem?_cons_succ, of_some, bind_ok, hc1, hc2, vBin_fdiv (a := c1) (b := 55) (σ := σ2) rfl (by decide), e60, vBin_add, e8, h36, h37]
  -- the nested one
  obtain ⟨n7, hn7, hn7'⟩ := nat_of5 (x := c1.fdiv 5) (b := 11) (by decide)
  have s7 : evE gl (callF gl P (d + 6)) (.bin .add (.cInt 20) (.bin .mod (.bin .fdiv (.call 0 [(.var 0), (.cInt 1)]) (.cInt 5)) (.cInt 11))) [.lst ys, .str l, T.v, y3a, .str u, .str u, D.v, .undef, .undef, .undef] σ4 = .ok (.int ((n7 + 20 : Nat) : Int)) σ4 := by
    have e11 : vBin σ4 .mod (.int (c1.fdiv 5)) (.int 11) = some (.int (n7 : Int)) := by rw [← hn7']; exact vBin_mod (by omega)
    have e20 : (20 : Int) + (n7 : Int) = ((n7 + 20 : Nat) : Int) := by omega
    simp only [evE_cNone, evE_cBool, evE_cInt, evE_cStr, evE_var, evE_glob, evE_and, evE_or, evE_not, evE_neg, evE_bin, evE_cmp, evE_cmp2, evE_ite, evE_tup, evE_lst, evE_call, evE_bi, evE_join, evE_idx, evE_slice, evEs_nil, evEs_cons, evO_none, evO_some, getV, List.getElem?_cons_zero, List.getElem?_cons_succ, of_some, bind_ok, hc1, vBin_fdiv (a := c1) (b := 5) (σ := σ4) rfl (by decide), e11, vBin_add, e20]
  generalize hN : n7 + 20 = N at s7
  have hN30 : N ≤ 30 := by omega
  have s8 : evE gl (callF gl P (d + 6)) (.tup [(.cStr [112, 105, 99, 107]), (.tup [(.tup [(.cStr [116, 97, 107, 101]), (.cBool true), (.cStr [97])]), (.tup [(.cStr [116, 97, 107, 101]), (.cBool true), (.cStr [98])])])]) [.lst ys, .str l, T.v, y3a, .str u, .str u, D.v, .int (N : Int), .undef, .undef] σ4 = .ok ab.v σ4 := by
    simp only [evE_cNone, evE_cBool, evE_cInt, evE_cStr, evE_var, evE_glob, evE_and, evE_or, evE_not, evE_neg, evE_bin, evE_cmp, evE_cmp2, evE_ite, evE_tup, evE_lst, evE_call, evE_bi, evE_join, evE_idx, evE_slice, evEs_nil, evEs_cons, evO_none, evO_some, bind_ok, tup3, tup2]; rfl
  obtain ⟨y3b, hlp8⟩ := chain_loop (gl := gl) (cf := callF gl P (d + 6)) (σ := σ4) (fr := fun a b => [.lst ys, .str l, T.v, b, .str u, .str u, D.v, .int (N : Int), a, .undef]) (v := 8) (q := 2) (r := 1) (by omega) (fun _ _ _ => rfl) (fun _ _ _ => rfl) (fun _ _ => rfl) (fun _ _ => rfl) (List.range N) ab y3a
  obtain ⟨k1, k2, _⟩ := chain_facts (q := 2) (r := 1) (List.range N) ab ok_ab
  rw [List.length_range, dep_ab] at k2
  have rgN := nest_rg (gl := gl) (d := d + 2) H.r hgl0 (by omega) N hN30
  have dN := dat_tree _ _ (Nat.le_refl _) k1
  generalize chain 2 1 (List.range N) ab = NT at hlp8 k1 k2 rgN dN
  have hnl := nest_len N
  have hnl' : (nestT N).length ≤ 123 := Nat.le_trans hnl (Nat.add_le_add_left (Nat.mul_le_mul_left 4 hN30) 3)
  have hne := nest_eq N
  have htl : (tails N).length ≤ (nestT N).length := by rw [← hne, List.length_append]; omega
  have eN : evE gl (callF gl P (d + 6)) (.bin .add (.bin .add (.bin .mul (.cStr [40]) (.var 7)) (.cStr [97, 124, 98])) (.join (.cStr []) (.comp false (.bin .add (.cStr [41, 63]) (.bin .mul (.cStr [33]) (.bin .sub (.cInt 1) (.bin .mod (.var 10) (.cInt 2))))) .rng1 (.var 7) .cNone none))) [.lst ys, .str l, T.v, y3b, .str u, .str u, D.v, .int (N : Int), NT.v, .undef] σ4 = .ok (.str (nestT N)) σ4 := by
    have hm1 : vBin σ4 .mul (.str [40]) (.int (N : Int)) = some (.str (List.replicate N 40)) := by
      show (if ([40].length * (N : Int).toNat ≤ roomy && small (N : Int)) = true then some (V.str (List.replicate (N : Int).toNat [40]).flatten) else none) = _
      rw [if_pos (by rw [small_of (i := (N : Int)) (by omega) (by omega), Bool.and_true]; simp only [Int.toNat_natCast, List.length_cons, List.length_nil]; exact decide_eq_true (by unfold roomy; omega)), Int.toNat_natCast, List.flatten_replicate_singleton]
    have hc : evE gl (callF gl P (d + 6)) (.comp false (.bin .add (.cStr [41, 63]) (.bin .mul (.cStr [33]) (.bin .sub (.cInt 1) (.bin .mod (.var 10) (.cInt 2))))) .rng1 (.var 7) .cNone none) [.lst ys, .str l, T.v, y3b, .str u, .str u, D.v, .int (N : Int), NT.v, .undef] σ4 = .ok (.lst ((List.range N).map fun (k : Nat) => V.str ([41, 63] ++ List.replicate (1 - (k : Int).fmod 2).toNat 33))) σ4 := by
      refine evE_compM (x := .int (N : Int)) (y := .none) (σ₁ := σ4) rfl evE_cNone (items_rng (by omega)) (fun k _ => ?_) (by rw [List.length_range]; unfold roomy; omega)
      obtain ⟨q1, q2⟩ := fmod_range (k : Int) (b := 2) (by decide)
      have hmul : vBin σ4 .mul (.str [33]) (.int (1 - (k : Int).fmod 2)) = some (.str (List.replicate (1 - (k : Int).fmod 2).toNat 33)) := by
        rcases (show (k : Int).fmod 2 = 0 ∨ (k : Int).fmod 2 = 1 by omega) with e | e <;> rw [e] <;> rfl
      have hadd : vBin σ4 .add (.str [41, 63]) (.str (List.replicate (1 - (k : Int).fmod 2).toNat 33)) = some (.str ([41, 63] ++ List.replicate (1 - (k : Int).fmod 2).toNat 33)) := vBin_addS (by rw [List.length_replicate]; simp only [List.length_cons, List.length_nil]; unfold roomy; omega)
      have hv10 : getV ([.lst ys, .str l, T.v, y3b, .str u, .str u, D.v, .int (N : Int), NT.v, .undef] ++ [.int (k : Int)]) 10 = some (.int (k : Int)) := rfl
      simp only [evE_cNone, evE_cBool, evE_cInt, evE_cStr, evE_var, evE_glob, evE_and, evE_or, evE_not, evE_neg, evE_bin, evE_cmp, evE_cmp2, evE_ite, evE_tup, evE_lst, evE_call, evE_bi, evE_join, evE_idx, evE_slice, evEs_nil, evEs_cons, evO_none, evO_some, hv10, of_some, bind_ok, vBin_mod (a := (k : Int)) (b := 2) (σ := σ4) (by decide), vBin_sub, hmul, hadd]
    have hj : joinS [] ((List.range N).map fun (k : Nat) => [41, 63] ++ List.replicate (1 - (k : Int).fmod 2).toNat 33) = tails N := by rw [joinS_nil, tails, List.flatMap_def]
    have hv7 : getV [.lst ys, .str l, T.v, y3b, .str u, .str u, D.v, .int (N : Int), NT.v, .undef] 7 = some (.int (N : Int)) := rfl
    rw [evE_bin, evE_bin, evE_bin, evE_cStr, bind_ok, evE_var, hv7, of_some, bind_ok, hm1, of_some, bind_ok, evE_cStr, bind_ok, vBin_addS (by rw [List.length_replicate]; simp only [List.length_cons, List.length_nil]; unfold roomy; omega), of_some, bind_ok, evE_join, evE_cStr, bind_ok, hc, bind_ok, vJoin_gen (by rw [hj]; simp only [List.length_nil]; unfold roomy; omega), of_some, bind_ok, hj, vBin_addS (by rw [List.length_append, List.length_replicate]; simp only [List.length_cons, List.length_nil]; unfold roomy; omega), of_some, hne]
  have ev8 : ∀ σ, evE gl (callF gl P (d + 6)) (.var 8) [.lst ys, .str l, T.v, y3b, .str u, .str u, D.v, .int (N : Int), NT.v, .undef] σ = .ok NT.v σ := fun σ => by
    rw [evE_var, getV_t (Γ := [.lst ys, .str l, T.v, y3b, .str u, .str u, D.v, .int (N : Int), NT.v, .undef]) (i := 8) (t := NT) rfl, of_some]
  obtain ⟨σ5, r5⟩ := alike_read (d := d + 2) H rgN hN30 (Nat.lt_of_le_of_lt hnl' (by decide)) eN ev8 (dat_mono (by rw [k2]; exact Nat.le_trans (Nat.mul_le_mul_left 2 (Nat.add_le_add_left hN30 2)) (Nat.le_trans (by decide) h66)) dN)
  -- twice
  have hv4 : ∀ {y3 y6 y7 y8 y9 : V} {σ : Sg}, evE gl (callF gl P (d + 6)) (.var 4) [.lst ys, .str l, T.v, y3, .str u, .str u, y6, y7, y8, y9] σ = .ok (.str u) σ := rfl
  have pcT := (rg.pc H.r hgl0).up (m := 29) hd29
  have rgTT : RG gl P (d + 2) ([40] ++ u ++ [41, 40] ++ u ++ [41]) (.row [T, T]) 29 := by
    have := RG.pcs (gl := gl) (P := P) (d := d + 2) [(40 :: (u ++ [41]), T), (40 :: (u ++ [41]), T)] (n := 29) (fun p hp => by
      simp only [List.mem_cons, List.not_mem_nil, or_false] at hp
      rcases hp with rfl | rfl <;> exact pcT) (by simp)
    simp only [List.flatMap_cons, List.flatMap_nil, List.append_nil] at this
    rw [show [40] ++ u ++ [41, 40] ++ u ++ [41] = 40 :: (u ++ [41]) ++ 40 :: (u ++ [41]) by simp]
    exact this
  obtain ⟨σ6, r6⟩ := read_RG (σ := σ5) H.r rgTT (by decide) (len5 hub (by decide) (by decide) (by decide))
  have s9 : evE gl (callF gl P (d + 6)) (.call 20 [(.bin .add (.bin .add (.bin .add (.bin .add (.cStr [40]) (.var 4)) (.cStr [41, 40])) (.var 4)) (.cStr [41]))]) [.lst ys, .str l, T.v, y3b, .str u, .str u, D.v, .int (N : Int), NT.v, .undef] σ5 = .ok (Tree.row [T, T]).v σ6 := by
    rw [evE_call, evEs_cons, add5 (b := [41, 40]) hv4 hub (by decide) (by decide) (by decide), bind_ok, evEs_nil, bind_ok, bind_ok, r6]
  have dTT : dat (2 * T.dep + 2) (Tree.row [T, T]).v := by
    rw [v_row]
    refine dat_seq (by simp) fun x hx => ?_
    simp only [List.mem_cons, List.not_mem_nil, or_false] at hx
    rcases hx with rfl | rfl <;> exact dt
  have t9 : evE gl (callF gl P (d + 6)) (.not (.call 21 [(.var 9), (.tup [(.cStr [114, 111, 119]), (.tup [(.var 2), (.var 2)])])])) [.lst ys, .str l, T.v, y3b, .str u, .str u, D.v, .int (N : Int), NT.v, (Tree.row [T, T]).v] σ6 = .ok (.bool false) σ6 := by
    refine not_s (p := true) ?_
    have hv9 := getV_t (Γ := [.lst ys, .str l, T.v, y3b, .str u, .str u, D.v, .int (N : Int), NT.v, (Tree.row [T, T]).v]) (i := 9) (t := Tree.row [T, T]) rfl
    have etup : evE gl (callF gl P (d + 6)) (.tup [(.cStr [114, 111, 119]), (.tup [(.var 2), (.var 2)])]) [.lst ys, .str l, T.v, y3b, .str u, .str u, D.v, .int (N : Int), NT.v, (Tree.row [T, T]).v] σ6 = .ok (Tree.row [T, T]).v σ6 := by
      rw [evE_tup, evEs_cons, evE_cStr, bind_ok, evEs_cons, evE_tup, evEs_cons, ev2, bind_ok, evEs_cons, ev2, bind_ok, evEs_nil, bind_ok, bind_ok, bind_ok, tup2, bind_ok, evEs_nil, bind_ok, bind_ok, bind_ok, tup2]; rfl
    rw [evE_call, evEs_cons, evE_var, hv9, of_some, bind_ok, evEs_cons, etup, bind_ok, evEs_nil, bind_ok, bind_ok, bind_ok, call_alike H.a21 (d + 6) _ (dat_mono (Nat.le_trans (Nat.add_le_add_right hdd 2) (Nat.le_trans (by decide) h66)) dTT)]
  -- with bars
  have rgBar : RG gl P (d + 2) ([40] ++ u ++ [41, 124, 97, 124, 40] ++ u ++ [41]) (.pick [T, .take true [97], T]) 29 := by
    have := RG.alts (gl := gl) (P := P) (d := d + 2) (n := 29) H.r [(40 :: (u ++ [41]), T), ([97], .take true [97]), (40 :: (u ++ [41]), T)] (by simp) (fun p hp => by
      simp only [List.mem_cons, List.not_mem_nil, or_false] at hp
      rcases hp with rfl | rfl | rfl
      · exact Alt.pc pcT
      · exact Alt.pc ((pc_sign H.r (by decide) (by decide)).up (Nat.zero_le _))
      · exact Alt.pc pcT) (by simp)
    rw [show [40] ++ u ++ [41, 124, 97, 124, 40] ++ u ++ [41] = barred ([(40 :: (u ++ [41]), T), ([97], Tree.take true [97]), (40 :: (u ++ [41]), T)].map (·.1)) by simp [barred]]
    exact this
  have dBar : dat (2 * T.dep + 2) (Tree.pick [T, .take true [97], T]).v := by
    rw [v_pick]
    refine dat_seq (by simp) fun x hx => ?_
    simp only [List.mem_cons, List.not_mem_nil, or_false] at hx
    rcases hx with rfl | rfl | rfl
    · exact dt
    · exact dat_mono (Nat.mul_le_mul_left 2 (dep_pos T)) dat_take
    · exact dt
  have eP : ∀ σ, evE gl (callF gl P (d + 6)) (.tup [(.cStr [112, 105, 99, 107]), (.tup [(.var 2), (.tup [(.cStr [116, 97, 107, 101]), (.cBool true), (.cStr [97])]), (.var 2)])]) [.lst ys, .str l, T.v, y3b, .str u, .str u, D.v, .int (N : Int), NT.v, (Tree.row [T, T]).v] σ = .ok (Tree.pick [T, .take true [97], T]).v σ := fun σ => by
    have et : evE gl (callF gl P (d + 6)) (.tup [(.cStr [116, 97, 107, 101]), (.cBool true), (.cStr [97])]) [.lst ys, .str l, T.v, y3b, .str u, .str u, D.v, .int (N : Int), NT.v, (Tree.row [T, T]).v] σ = .ok (Tree.take true [97]).v σ := by
      simp only [evE_cNone, evE_cBool, evE_cInt, evE_cStr, evE_var, evE_glob, evE_and, evE_or, evE_not, evE_neg, evE_bin, evE_cmp, evE_cmp2, evE_ite, evE_tup, evE_lst, evE_call, evE_bi, evE_join, evE_idx, evE_slice, evEs_nil, evEs_cons, evO_none, evO_some, bind_ok, tup3]; rfl
    rw [evE_tup, evEs_cons, evE_cStr, bind_ok, evEs_cons, evE_tup, evEs_cons, ev2, bind_ok, evEs_cons, et, bind_ok, evEs_cons, ev2, bind_ok, evEs_nil, bind_ok, bind_ok, bind_ok, bind_ok, tup3, bind_ok, evEs_nil, bind_ok, bind_ok, bind_ok, tup2]; rfl
  obtain ⟨σ7, r7⟩ := alike_read (d := d + 2) (σ := σ6) H rgBar (by decide) (len5 hub (by decide) (by decide) (by decide)) (add5 (b := [41, 124, 97, 124, 40]) hv4 hub (by decide) (by decide) (by decide)) eP (dat_mono (Nat.le_trans (Nat.add_le_add_right hdd 2) (Nat.le_trans (by decide) h66)) dBar)
  exact ⟨_, σ7, (exB_asg (s4 σ)).trans ((exB_asg (s5 σ)).trans ((exB_skip t1 rfl).trans ((exB_asg (ev2 σ1)).trans ((exB_next ((exS_for (x := .int (m : Int)) (y := .none) (σ₁ := σ1) (σ₂ := σ1) sm evE_cNone (items_rng (by omega))).trans hlp6)).trans ((exB_skip t6 rfl).trans ((exB_skip (not_s r2) rfl).trans ((exB_skip t7 rfl).trans ((exB_asg s7).trans ((exB_asg s8).trans ((exB_next ((exS_for (x := .int (N : Int)) (y := .none) (σ₁ := σ4) (σ₂ := σ4) rfl evE_cNone (items_rng (by omega))).trans hlp8)).trans ((exB_skip (not_s r5) rfl).trans ((exB_asg s9).trans ((exB_skip t9 rfl).trans (exB_rets r7))))))))))))))⟩

theorem law05_body (H : H5 P) (hgl0 : gl[0]? = some (.int 30)) (hgl1 : gl[1]? = some (.str special)) {xs : List Int} (hx : xs.length ≤ 63) (hd : 300 ≤ d) :
    ∃ Γ σ', exB gl (callF gl P (d + 6)) d_law_v05.body [.lst (xs.map V.int), .undef, .undef, .undef, .undef, .undef, .undef, .undef, .undef, .undef] σ = .ok (.ret (.bool true), Γ) σ' := by
  have hc : ∀ (k : Nat) (i : Int), i = (k : Int) → ∀ σ, callF gl P (d + 6) 0 [.lst (xs.map V.int), .int i] σ = .ok (.int (xs.getD k 0)) σ := fun k i hi σ => call_cell (d := d + 5) H.t.s hx k hi
  have hc0 := hc 0 0 rfl
  have hc1 := hc 1 1 rfl
  have hc2 := hc 2 2 rfl
  generalize xs.getD 0 0 = c0 at hc0
  generalize xs.getD 1 0 = c1 at hc1
  generalize xs.getD 2 0 = c2 at hc2
  obtain ⟨T, hT, ok, hdep, _, hnod⟩ := call_tree (gl := gl) (σ := σ) (d := d + 2) H.t (three_ok c0) ((xs.take 31).drop 3) (by rw [List.length_drop, List.length_take]; omega)
  have hl31 : ((xs.take 31).drop 3).length ≤ 28 := by rw [List.length_drop, List.length_take]; omega
  have hcut : vCut σ (.lst (xs.map V.int)) (some 3) (some 31) = some (.lst (((xs.take 31).drop 3).map V.int)) := by
    rw [vCut_l rfl rfl, show cut (xs.map V.int) (some 3) (some 31) = ((xs.map V.int).take 31).drop 3 from cut_mid 3 31 (by omega), List.map_drop, List.map_take]
  have h3 := call_three (gl := gl) (d := d + 4) (σ := σ) H.t.s c0
  generalize [sign c0, sign (c0 + 31), sign (c0 + 62)] = l at hT h3
  have s1 : evE gl (callF gl P (d + 6)) (.call 2 [(.call 0 [(.var 0), (.cInt 0)])]) [.lst (xs.map V.int), .undef, .undef, .undef, .undef, .undef, .undef, .undef, .undef, .undef] σ = .ok (.str l) σ := by
    simp only [evE_cNone, evE_cBool, evE_cInt, evE_cStr, evE_var, evE_glob, evE_and, evE_or, evE_not, evE_neg, evE_bin, evE_cmp, evE_cmp2, evE_ite, evE_tup, evE_lst, evE_call, evE_bi, evE_join, evE_idx, evE_slice, evEs_nil, evEs_cons, evO_none, evO_some, getV, List.getElem?_cons_zero, List.getElem?_cons_succ, of_some, bind_ok, hc0, h3]
  have s2 : evE gl (callF gl P (d + 6)) (.idx (.call 8 [(.slice (.var 0) (some (.cInt 3)) (some (.cInt 31))), (.var 1)]) (.cInt 0)) [.lst (xs.map V.int), .str l, .undef, .undef, .undef, .undef, .undef, .undef, .undef, .undef] σ = .ok T.v σ := by
    simp only [evE_cNone, evE_cBool, evE_cInt, evE_cStr, evE_var, evE_glob, evE_and, evE_or, evE_not, evE_neg, evE_bin, evE_cmp, evE_cmp2, evE_ite, evE_tup, evE_lst, evE_call, evE_bi, evE_join, evE_idx, evE_slice, evEs_nil, evEs_cons, evO_none, evO_some, getV, List.getElem?_cons_zero, List.getElem?_cons_succ, of_some, bind_ok, asInt_i, hcut, hT, item_0]
  have t5 : evE gl (callF gl P (d + 6)) (.cmp .eq (.bin .mod (.call 0 [(.var 0), (.cInt 1)]) (.cInt 5)) (.cInt 1)) [.lst (xs.map V.int), .str l, T.v, .undef, .undef, .undef, .undef, .undef, .undef, .undef] σ = .ok (.bool (c1.fmod 5 == 1)) σ := by
    simp only [evE_cNone, evE_cBool, evE_cInt, evE_cStr, evE_var, evE_glob, evE_and, evE_or, evE_not, evE_neg, evE_bin, evE_cmp, evE_cmp2, evE_ite, evE_tup, evE_lst, evE_call, evE_bi, evE_join, evE_idx, evE_slice, evEs_nil, evEs_cons, evO_none, evO_some, getV, List.getElem?_cons_zero, List.getElem?_cons_succ, of_some, bind_ok, hc1, vBin_mod (a := c1) (b := 5) (σ := σ) (by decide), eq_ii]
  cases hq : (c1.fmod 5 == 1) with
  | false =>
    rw [hq] at t5
    obtain ⟨Γ, σ', h⟩ := law05_rest (gl := gl) (d := d) (σ := σ) (l := l) (y3 := .undef) H hgl0 hgl1 hd hc1 hc2 ok (by omega) (by omega)
    exact ⟨Γ, σ', (exB_asg s1).trans ((exB_asg s2).trans ((exB_skip t5 rfl).trans h))⟩
  | true =>
    rw [hq] at t5
    obtain ⟨m, hm, hm'⟩ := nat_of5 (x := c2) (b := 16) (by decide)
    obtain ⟨y3, hlp⟩ := chain_loop (gl := gl) (cf := callF gl P (d + 6)) (σ := σ) (fr := fun a b => [.lst (xs.map V.int), .str l, a, b, .undef, .undef, .undef, .undef, .undef, .undef]) (v := 2) (q := 3) (r := 0) (by omega) (fun _ _ _ => rfl) (fun _ _ _ => rfl) (fun _ _ => rfl) (fun _ _ => rfl) (List.range m) T .undef
    obtain ⟨g1, g2, g3⟩ := chain_facts (q := 3) (r := 0) (List.range m) T ok
    rw [List.length_range] at g2 g3
    have sm : evE gl (callF gl P (d + 6)) (.bin .mod (.call 0 [(.var 0), (.cInt 2)]) (.cInt 16)) [.lst (xs.map V.int), .str l, T.v, .undef, .undef, .undef, .undef, .undef, .undef, .undef] σ = .ok (.int (m : Int)) σ := by
      have e16 : vBin σ .mod (.int c2) (.int 16) = some (.int (m : Int)) := by rw [← hm']; exact vBin_mod (by omega)
      simp only [evE_cNone, evE_cBool, evE_cInt, evE_cStr, evE_var, evE_glob, evE_and, evE_or, evE_not, evE_neg, evE_bin, evE_cmp, evE_cmp2, evE_ite, evE_tup, evE_lst, evE_call, evE_bi, evE_join, evE_idx, evE_slice, evEs_nil, evEs_cons, evO_none, evO_some, getV, List.getElem?_cons_zero, List.getElem?_cons_succ, of_some, bind_ok, hc2, e16]
    obtain ⟨Γ, σ', h⟩ := law05_rest (gl := gl) (d := d) (σ := σ) (ys := xs.map V.int) (l := l) (y3 := y3) (T := chain 3 0 (List.range m) T) H hgl0 hgl1 hd hc1 hc2 g1 (by omega) (by omega)
    exact ⟨Γ, σ', (exB_asg s1).trans ((exB_asg s2).trans ((exB_into t5 rfl ((exB_next ((exS_for (x := .int (m : Int)) (y := .none) (σ₁ := σ) (σ₂ := σ) sm evE_cNone (items_rng (by omega))).trans hlp)).trans exB_nil0)).trans h))⟩

theorem law_true05 (xs : List Int) (hx : xs.length ≤ 63) : ∃ σ', callF GL05 P05 500 3 [.lst (xs.map V.int)] [] = .ok (.bool true) σ' := by
  have H : H5 P05 := ⟨⟨⟨rfl, rfl, rfl⟩, by omega, rfl, rfl, rfl, rfl⟩, ⟨rfl, rfl, rfl, rfl, rfl, rfl, rfl, rfl⟩, ⟨⟨rfl, rfl, rfl⟩, rfl, rfl, rfl, rfl, rfl, rfl, rfl⟩, rfl, rfl, rfl⟩
  obtain ⟨Γ, σ', h⟩ := law05_body (gl := GL05) (P := P05) (d := 493) (σ := []) H rfl rfl hx (by omega)
  exact ⟨σ', callF_ret (D := d_law_v05) rfl rfl h⟩
end
end Mine

open PySem PySem.W PyProof.Rows
theorem Mine.said05 : OpenLaw.wellSaid PySem.Challenge.rw_uf020004_05 = true := by kernel_rfl
theorem Mine.left05 : LeftO PySem.Challenge.pw_uf020004_05 (view PySem.Challenge.pw_uf020004_05 [1, 2, 3, 4, 5, 6, 8, 9, 10, 11, 12, 13, 15, 16, 17, 18, 19, 20, 21, 22, 24, 25, 26, 27, 28, 29, 30, 31, 32, 33, 34, 35, 36, 37]) [] (fun s => xlAt (view PySem.Challenge.pw_uf020004_05 [1, 2, 3, 4, 5, 6, 8, 9, 10, 11, 12, 13, 15, 16, 17, 18, 19, 20, 21, 22, 24, 25, 26, 27, 28, 29, 30, 31, 32, 33, 34, 35, 36, 37]) [] s && recOk [] s) (Hook.obs Hook.none) (Hook.val Hook.none) 4000 := by intro w; kernel_rfl
set_option maxRecDepth 100000 in
set_option maxHeartbeats 8000000 in
theorem PySem.Challenge.cw_uf020004_05_holds : PySem.Challenge.rw_uf020004_05.Holds := by
  w_on
  refine holds_law Mine.said05 fun said => ?_
  refine holds_open (q := (view PySem.Challenge.pw_uf020004_05 [1, 2, 3, 4, 5, 6, 8, 9, 10, 11, 12, 13, 15, 16, 17, 18, 19, 20, 21, 22, 24, 25, 26, 27, 28, 29, 30, 31, 32, 33, 34, 35, 36, 37])) (loose := []) (Xt := fun s => xlAt (view PySem.Challenge.pw_uf020004_05 [1, 2, 3, 4, 5, 6, 8, 9, 10, 11, 12, 13, 15, 16, 17, 18, 19, 20, 21, 22, 24, 25, 26, 27, 28, 29, 30, 31, 32, 33, 34, 35, 36, 37]) [] s && recOk [] s) (XP := XL (view PySem.Challenge.pw_uf020004_05 [1, 2, 3, 4, 5, 6, 8, 9, 10, 11, 12, 13, 15, 16, 17, 18, 19, 20, 21, 22, 24, 25, 26, 27, 28, 29, 30, 31, 32, 33, 34, 35, 36, 37]) []) (Yf := Hook.obs Hook.none) (Ya := Hook.val Hook.none) (YP := Hook.says Hook.none) (N := 4000) Mine.left05 (Hook.of Hook.none) (Hook.keeps Hook.none) (fun s e => xl_of s (Bool.and_eq_true_iff.mp e).1) XL.keeps (by rfl) (by rfl) (by rfl) (fun s e => recFacts_of (Bool.and_eq_true_iff.mp e).2) (by rfl) (by first | assumption | decide +kernel) (by decide +kernel) ⟨rfl, rfl, rfl, rfl, rfl, by decide +kernel⟩ ?hw ?hc
  case hw => w_witness2
  intro w s₀ s₁ mg mb G Y fa o pm cd doc dV kV ho hd hcd hD hmg hg args vals as hpre hlay hrd hwl hlo
  refine Ground.open G ?_
  intro T B D TE TW
  wrow_args hpre hlay hrd hwl hlo
  rename_i xs _ _ _ _ _ _ _ ad vs _ _ _ w1 _ hI _ hlen _
  have hx : xs.length ≤ 63 := by omega
  obtain ⟨σ', he⟩ := Mine.law_true05 xs hx
  obtain ⟨us, hli, hi⟩ := Mine.well_script w1
  refine wpAny_mono (Mine.law_run (fuel := 200) (N := Mine.NM05) (tbls := Mine.TB05) T (by decide +kernel) (by decide +kernel) rfl (by decide +kernel) rfl hmg (by decide) hli hi hx he) (fun v s' hP => Mine.good_true (raisesW_false (by wrow_none_raised)) (by wrow_post) hg hP) fun _ _ e => e

