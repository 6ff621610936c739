import PyProof.Rows.All
import Wide.All
import OpenK.AllK
import Wide.FinOn
import KE.KIsAll
import KE.KRevIter
import Lean
import PySem.Challenge.RW_uf040034_09
set_option Elab.async false
set_option genSizeOf false
set_option autoImplicit false
set_option linter.unusedVariables false
namespace Mine
open PySem

/-- small values -/
inductive V where
  | none | bool (b : Bool) | int (i : Int) | str (s : Str) | ref (a : Nat)

/-- small objects -/
inductive O where
  | list (vs : List V)
  | tuple (vs : List V)
  | dict (es : List (Int × Int))
  | frozen (vs : List V)
  | exc (c : Nat)

abbrev H := List O
abbrev Sto := Nat → Option V

noncomputable def upd (σ : Sto) (i : Nat) (v : V) : Sto := fun j => if j = i then some v else σ j
noncomputable def updL (σ : Sto) : List Nat → List V → Sto
  | i :: is, v :: vs => updL (upd σ i v) is vs
  | _, _ => σ
noncomputable def noSto : Sto := fun _ => Option.none

inductive R (α : Type) where
  | ok (a : α) (h : H)
  | exc (c : Nat) (h : H)
  | stuck

noncomputable def R.bind {α β : Type} (m : R α) (f : α → H → R β) : R β := match m with
  | .ok a h => f a h
  | .exc c h => .exc c h
  | .stuck => .stuck

inductive RS where
  | next (σ : Sto) (h : H)
  | ret (v : V) (h : H)
  | exc (c : Nat) (σ : Sto) (h : H)
  | stuck

/-- the kinds that isinstance is asked for -/
inductive Ty where
  | int | bool | list | tuple | str | exc (k : Nat) | valueError

inductive Bi where
  | len | all | any | list | int | max | min | tuple | sorted | set

inductive Me where
  | append | index | pop | clear

mutual
inductive X where
  | none
  | bool (b : Bool)
  | int (i : Int)
  | str (s : Str)
  | var (i : Nat)
  | glob (i : Nat)
  | bin (op : Operator) (a b : X)
  | neg (a : X)
  | not (a : X)
  | bop (op : BoolOp) (es : List X)
  | ite (t a b : X)
  | cmp (a : X) (ops : List CmpOp) (bs : List X)
  | call (f : Nat) (args : List X)
  | bi (b : Bi) (args : List X)
  | isi (a : X) (t : Ty)
  | meth (m : Me) (o : X) (args : List X)
  | sub (o i : X)
  | list (es : List X)
  | tup (es : List X)
  | dict0
  | lrange (args : List X)
  | slice (i : Nat) (lo hi st : X)
  | comp (elt : X) (v : Nat) (it : It) (ifs : List X)
/-- what a loop goes over -/
inductive It where
  | range (args : List X)
  | val (x : X)
  | rev (x : X)
end

inductive S where
  | assign (i : Nat) (e : X)
  | unpack (is : List Nat) (e : X)
  | expr (e : X)
  | ite (t : X) (a b : List S)
  | for (v : Nat) (it : It) (body : List S)
  | ret (e : X)
  | raise (c : Nat)
  | try (body : List S) (c v : Nat) (hd : X)
  | dead

structure Cx where
  F : Nat → List V → H → R V
  L : Nat → List V → H → R V
  G : Nat → Option V
  calm : Bool

/-- the same, while an exception is being handled -/
noncomputable def Cx.loose (C : Cx) : Cx := ⟨C.L, C.L, C.G, false⟩

noncomputable def truthV : V → Option Bool
  | .none => some false
  | .bool b => some b
  | .int i => some (i != 0)
  | _ => Option.none

noncomputable def R.ofOpt {α : Type} (o : Option α) (h : H) : R α := match o with
  | some a => .ok a h
  | Option.none => .stuck

noncomputable def big : Nat := 1000000

noncomputable def alloc (o : O) (h : H) : R V := .ok (.ref h.length) (h ++ [o])

noncomputable def small (a : Int) : Bool := decide (-(2 ^ 63) < a) && decide (a < 2 ^ 63)

noncomputable def intOp (op : Operator) (x y : Int) (h : H) : R V := match op with
  | .Add => .ok (.int (x + y)) h
  | .Sub => .ok (.int (x - y)) h
  | .Mult => if small x || small y then .ok (.int (x * y)) h else .stuck
  | .FloorDiv => if 0 < y ∧ y < 1073741824 then .ok (.int (x / y)) h else .stuck
  | .Mod => if 0 < y then .ok (.int (x % y)) h else .stuck
  | .Pow => if x = 10 ∧ 2 ≤ y ∧ y ≤ 30 then .ok (.int (10 ^ y.toNat)) h else .stuck
  | _ => .stuck
noncomputable def refOp (op : Operator) (i j : Nat) (h : H) : R V := match op with
  | .Add => match h[i]? with
    | some (.list xs) => match h[j]? with
      | some (.list ys) => if xs.length + ys.length ≤ big then alloc (.list (xs ++ ys)) h else .stuck
      | _ => .stuck
    | _ => .stuck
  | _ => .stuck
noncomputable def strAdd (op : Operator) (x y : Str) (h : H) : R V := match op with
  | .Add => if x.length + y.length ≤ big then .ok (.str (if x.length == 0 then y else if y.length == 0 then x else x ++ y)) h else .stuck
  | _ => .stuck
noncomputable def strMul (op : Operator) (x : Str) (k : Int) (h : H) : R V := match op with
  | .Mult => if k = 0 then .ok (.str Str.empty) h else if k = 1 then .ok (.str x) h else .stuck
  | _ => .stuck
noncomputable def binV (op : Operator) (a b : V) (h : H) : R V := match a with
  | .int x => match b with
    | .int y => intOp op x y h
    | _ => .stuck
  | .ref i => match b with
    | .ref j => refOp op i j h
    | _ => .stuck
  | .str x => match b with
    | .str y => strAdd op x y h
    | .int k => strMul op x k h
    | _ => .stuck
  | _ => .stuck

noncomputable def mapO {α β : Type} (f : α → Option β) : List α → Option (List β)
  | [] => some []
  | a :: as => match f a with
    | some b => match mapO f as with
      | some bs => some (b :: bs)
      | Option.none => Option.none
    | Option.none => Option.none

/-- what stands at a value, as data -/
noncomputable def rd : Nat → H → V → Option PyData
  | 0, _, _ => Option.none
  | n + 1, h, v => match v with
    | .none => some .none
    | .bool b => some (.bool b)
    | .int i => some (.int i)
    | .str s => some (.str s)
    | .ref a => match h[a]? with
      | some (.list vs) => (mapO (rd n h) vs).map .list
      | some (.tuple vs) => (mapO (rd n h) vs).map .tuple
      | _ => Option.none

noncomputable def eqV (h : H) (a b : V) : Option Bool := match rd 6 h a, rd 6 h b with
  | some x, some y => if PyData.canLay0 x && PyData.canLay0 y then some (PyData.eqv x y) else Option.none
  | _, _ => Option.none

noncomputable def listAt (h : H) : V → Option (List V)
  | .ref a => match h[a]? with
    | some (.list vs) => some vs
    | _ => Option.none
  | _ => Option.none

noncomputable def tupAt (h : H) : V → Option (List V)
  | .ref a => match h[a]? with
    | some (.tuple vs) => some vs
    | _ => Option.none
  | _ => Option.none

noncomputable def seqAt (h : H) : V → Option (List V)
  | .ref a => match h[a]? with
    | some (.list vs) => some vs
    | some (.tuple vs) => some vs
    | some (.frozen vs) => some vs
    | _ => Option.none
  | _ => Option.none

noncomputable def isNone : V → Bool
  | .none => true
  | _ => false

noncomputable def inV (h : H) (a b : V) : Option Bool := match rd 6 h b, rd 6 h a with
  | some (.list xs), some d => if PyData.canLayAll0 xs && PyData.canLay0 d then some (xs.any fun y => PyData.eqv y d) else Option.none
  | _, _ => Option.none

noncomputable def indexV (h : H) (b a : V) : Option Nat := match rd 6 h b, rd 6 h a with
  | some (.list xs), some d => if PyData.canLayAll0 xs && PyData.canLay0 d then xs.findIdx? (fun y => PyData.eqv y d) else Option.none
  | _, _ => Option.none

noncomputable def cmpV (op : CmpOp) (a b : V) (h : H) : Option Bool := match op with
  | .Eq => eqV h a b
  | .NotEq => (eqV h a b).map (!·)
  | .Lt => match a, b with | .int x, .int y => some (decide (x < y)) | _, _ => Option.none
  | .LtE => match a, b with | .int x, .int y => some (decide (x ≤ y)) | _, _ => Option.none
  | .Gt => match a, b with | .int x, .int y => some (decide (y < x)) | _, _ => Option.none
  | .GtE => match a, b with | .int x, .int y => some (decide (y ≤ x)) | _, _ => Option.none
  | .Is => match b with | .none => some (isNone a) | _ => Option.none
  | .IsNot => match b with | .none => some (!isNone a) | _ => Option.none
  | .In => inV h a b
  | .NotIn => (inV h a b).map (!·)

noncomputable def idx (k : Int) (n : Nat) : Option Nat :=
  if 0 ≤ k ∧ k < n ∧ n ≤ big then some k.toNat else Option.none

noncomputable def itemV (a b : V) (h : H) : Option V := match b with
  | .int k => match seqAt h a with
    | some vs => match idx k vs.length with
      | some j => vs[j]?
      | Option.none => Option.none
    | Option.none => Option.none
  | _ => Option.none

inductive Kd where
  | none | bool | int | str | list | tuple | dict | exc (c : Nat)

noncomputable def kindV (h : H) : V → Option Kd
  | .none => some .none
  | .bool _ => some .bool
  | .int _ => some .int
  | .str _ => some .str
  | .ref a => match h[a]? with
    | some (.list _) => some .list
    | some (.tuple _) => some .tuple
    | some (.dict _) => some .dict
    | some (.exc c) => some (.exc c)
    | _ => Option.none

noncomputable def tyNo : Ty → Option Nat
  | .int => some 2 | .bool => some 1 | .str => some 3 | .list => some 4 | .tuple => some 5 | .exc _ => Option.none | .valueError => Option.none
noncomputable def kdNo : Kd → Option Nat
  | .none => some 0 | .bool => some 1 | .int => some 2 | .str => some 3 | .list => some 4 | .tuple => some 5 | .dict => some 6 | .exc _ => Option.none
/-- class 0 is the base of all own classes -/
noncomputable def subE (t : Ty) (c : Nat) : Option Bool := match t with
  | .exc j => some (c == j || j == 0)
  | .valueError => some true
  | _ => Option.none
noncomputable def isiK (t : Ty) (k : Kd) : Option Bool := match k with
  | .exc c => subE t c
  | _ => match tyNo t with
    | some a => match kdNo k with
      | some b => some (a == b || (a == 2 && b == 1))
      | Option.none => Option.none
    | Option.none => Option.none

noncomputable def allB : List V → Option Bool
  | [] => some true
  | .bool b :: vs => match allB vs with
    | some t => some (b && t)
    | Option.none => Option.none
  | _ => Option.none

noncomputable def bi1 (b : Bi) (a : V) (h : H) : R V := match b with
  | .len => match seqAt h a with
    | some vs => if vs.length ≤ big then .ok (.int vs.length) h else .stuck
    | Option.none => .stuck
  | .all => match listAt h a with
    | some vs => match allB vs with
      | some t => .ok (.bool t) h
      | Option.none => .stuck
    | Option.none => .stuck
  | .list => match listAt h a with
    | some vs => if vs.length ≤ big then alloc (.list vs) h else .stuck
    | Option.none => .stuck
  | .int => match a with
    | .bool t => .ok (.int (if t then 1 else 0)) h
    | .int i => .ok (.int i) h
    | _ => .stuck
  | .tuple => match listAt h a with
    | some vs => if vs.length ≤ big then alloc (.tuple vs) h else .stuck
    | Option.none => .stuck
  | _ => .stuck
noncomputable def bi2 (b : Bi) (a c : V) (h : H) : R V := match b with
  | .max => match a, c with
    | .int x, .int y => .ok (.int (if y > x then y else x)) h
    | _, _ => .stuck
  | .min => match a, c with
    | .int x, .int y => .ok (.int (if y < x then y else x)) h
    | _, _ => .stuck
  | _ => .stuck
noncomputable def biV (b : Bi) (args : List V) (h : H) : R V := match args with
  | [a] => bi1 b a h
  | [a, c] => bi2 b a c h
  | _ => .stuck

noncomputable def meV (m : Me) (o : V) (args : List V) (h : H) : R V := match o with
  | .ref a => match h[a]? with
    | some (.list vs) => match m, args with
      | .append, [v] => if vs.length ≤ big then .ok .none (h.set a (.list (vs ++ [v]))) else .stuck
      | .clear, [] => if vs.length ≤ big then .ok .none (h.set a (.list [])) else .stuck
      | .index, [v] => match indexV h o v with
        | some k => if vs.length ≤ big then .ok (.int k) h else .stuck
        | Option.none => .stuck
      | _, _ => .stuck
    | _ => .stuck
  | _ => .stuck

noncomputable def countV (a : Int) : Nat → List V
  | 0 => []
  | n + 1 => .int a :: countV (a + 1) n

noncomputable def tiny (a : Int) : Bool := decide (-1000000 < a) && decide (a < 1000000)
noncomputable def rangeV : List V → Option (List V)
  | [.int n] => if tiny n then some (countV 0 n.toNat) else Option.none
  | [.int a, .int b] => if tiny a && tiny b then some (countV a (b - a).toNat) else Option.none
  | _ => Option.none

noncomputable def partV : V → Option (Option Int)
  | .none => some Option.none
  | .int i => some (some i)
  | _ => Option.none
noncomputable def pickV (vs : List V) (lo hi st : Option Int) : List V :=
  (sliceRange (sliceBounds lo hi st vs.length).1 (sliceBounds lo hi st vs.length).2.1 (sliceBounds lo hi st vs.length).2.2).filterMap (vs[·]?)
noncomputable def sliceV (v a b c : V) (h : H) : R V := match listAt h v with
  | some vs => match partV a with
    | some lo => match partV b with
      | some hi => match partV c with
        | some st => if st ≠ some 0 ∧ vs.length ≤ big then alloc (.list (pickV vs lo hi st)) h else .stuck
        | Option.none => .stuck
      | Option.none => .stuck
    | Option.none => .stuck
  | Option.none => .stuck

/-- an iterable's items, and the object that must stay as it is -/
structure Src where
  items : List V
  live : Option (Nat × O)

noncomputable def Src.stands (x : Src) (h : H) : Prop := match x.live with
  | some (a, o) => h[a]? = some o
  | Option.none => True

noncomputable def srcV (v : V) (h : H) : Option Src := match v with
  | .ref a => match h[a]? with
    | some (.list vs) => some ⟨vs, some (a, .list vs)⟩
    | some (.tuple vs) => some ⟨vs, some (a, .tuple vs)⟩
    | _ => Option.none
  | _ => Option.none

noncomputable def srcR (v : V) (h : H) : Option Src := match v with
  | .ref a => match h[a]? with
    | some (.list vs) => some ⟨vs.reverse, some (a, .list vs)⟩
    | _ => Option.none
  | _ => Option.none

noncomputable def easy : Bi → Bool
  | .int => true
  | _ => false

/-- tests of a comprehension, one after the other -/
noncomputable def testsR (ts : List (H → R V)) (h : H) : R Bool := match ts with
  | [] => .ok true h
  | t :: ts => match t h with
    | .ok v h' => match truthV v with
      | some true => testsR ts h'
      | some false => .ok false h'
      | Option.none => .stuck
    | _ => .stuck

open Classical in
/-- a comprehension's turns: no turn may raise -/
noncomputable def compR (src : Src) (tests : V → H → R Bool) (elt : V → H → R V) : List V → H → R (List V)
  | [], h => if src.stands h then .ok [] h else .stuck
  | v :: vs, h => if src.stands h then
      match tests v h with
      | .ok true h1 => match elt v h1 with
        | .ok x h2 => match compR src tests elt vs h2 with
          | .ok xs h3 => .ok (x :: xs) h3
          | _ => .stuck
        | _ => .stuck
      | .ok false h1 => compR src tests elt vs h1
      | _ => .stuck
    else .stuck

open Classical in
/-- a for's turns: no turn may raise -/
noncomputable def forR (src : Src) (body : V → Sto → H → RS) : List V → Sto → H → RS
  | [], σ, h => if src.stands h then .next σ h else .stuck
  | v :: vs, σ, h => if src.stands h then
      match body v σ h with
      | .next σ1 h1 => forR src body vs σ1 h1
      | .ret x h1 => .ret x h1
      | _ => .stuck
    else .stuck

mutual
noncomputable def ev (C : Cx) : X → Sto → H → R V
  | .none, _, h => .ok .none h
  | .bool b, _, h => .ok (.bool b) h
  | .int i, _, h => .ok (.int i) h
  | .str s, _, h => .ok (.str s) h
  | .var i, σ, h => .ofOpt (σ i) h
  | .glob i, _, h => .ofOpt (C.G i) h
  | .bin op a b, σ, h => (ev C a σ h).bind fun x h1 => (ev C b σ h1).bind fun y h2 => binV op x y h2
  | .neg a, σ, h => (ev C a σ h).bind fun x h1 => match x with | .int i => .ok (.int (-i)) h1 | _ => .stuck
  | .not a, σ, h => (ev C a σ h).bind fun x h1 => match truthV x with | some t => .ok (.bool (!t)) h1 | Option.none => .stuck
  | .bop op es, σ, h => evB C op es σ h
  | .ite t a b, σ, h => (ev C t σ h).bind fun x h1 => match truthV x with
    | some true => ev C a σ h1
    | some false => ev C b σ h1
    | Option.none => .stuck
  | .cmp a ops bs, σ, h => (ev C a σ h).bind fun x h1 => evC C x ops bs σ h1
  | .call f args, σ, h => (evL C args σ h).bind fun vs h1 => C.F f vs h1
  | .bi b args, σ, h => (evL C args σ h).bind fun vs h1 => if C.calm || easy b then biV b vs h1 else .stuck
  | .isi a t, σ, h => (ev C a σ h).bind fun x h1 => match kindV h1 x with
    | some k => match isiK t k with
      | some b => .ok (.bool b) h1
      | Option.none => .stuck
    | Option.none => .stuck
  | .meth m o args, σ, h => (ev C o σ h).bind fun x h1 => match kindV h1 x with
    | some .list => (evL C args σ h1).bind fun vs h2 => meV m x vs h2
    | _ => .stuck
  | .sub o i, σ, h => (ev C o σ h).bind fun x h1 => (ev C i σ h1).bind fun y h2 => .ofOpt (itemV x y h2) h2
  | .list es, σ, h => (evL C es σ h).bind fun vs h1 => if vs.length ≤ big then alloc (.list vs) h1 else .stuck
  | .tup es, σ, h => (evL C es σ h).bind fun vs h1 => if vs.length ≤ big then alloc (.tuple vs) h1 else .stuck
  | .dict0, _, h => alloc (.dict []) h
  | .lrange args, σ, h => (evL C args σ h).bind fun vs h1 => match rangeV vs with
    | some items => if C.calm = true then alloc (.list items) h1 else .stuck
    | Option.none => .stuck
  | .slice i lo hi st, σ, h => (R.ofOpt (σ i) h).bind fun v h0 => (ev C lo σ h0).bind fun a h1 => (ev C hi σ h1).bind fun b h2 => (ev C st σ h2).bind fun c h3 => sliceV v a b c h3
  | .comp elt v it ifs, σ, h => (evS C it σ h).bind fun src h1 =>
    if C.calm = true ∧ src.items.length ≤ big then
      (compR src (fun x h2 => testsR (evT C ifs (upd σ v x)) h2) (fun x h2 => ev C elt (upd σ v x) h2) src.items h1).bind fun vs h2 => alloc (.list vs) h2
    else .stuck
noncomputable def evL (C : Cx) : List X → Sto → H → R (List V)
  | [], _, h => .ok [] h
  | e :: es, σ, h => (ev C e σ h).bind fun v h1 => (evL C es σ h1).bind fun vs h2 => .ok (v :: vs) h2
noncomputable def evB (C : Cx) (op : BoolOp) : List X → Sto → H → R V
  | [], _, _ => .stuck
  | [e], σ, h => ev C e σ h
  | e :: e' :: es, σ, h => (ev C e σ h).bind fun x h1 => match truthV x with
    | some t => if t = (op == .Or) then .ok x h1 else evB C op (e' :: es) σ h1
    | Option.none => .stuck
noncomputable def evC (C : Cx) (x : V) : List CmpOp → List X → Sto → H → R V
  | [op], [e], σ, h => (ev C e σ h).bind fun y h1 => match cmpV op x y h1 with
    | some t => .ok (.bool t) h1
    | Option.none => .stuck
  | op :: ops, e :: es, σ, h => (ev C e σ h).bind fun y h1 => match cmpV op x y h1 with
    | some true => evC C y ops es σ h1
    | some false => .ok (.bool false) h1
    | Option.none => .stuck
  | _, _, _, _ => .stuck
noncomputable def evS (C : Cx) : It → Sto → H → R Src
  | .range args, σ, h => (evL C args σ h).bind fun vs h1 => match rangeV vs with
    | some items => .ok ⟨items, Option.none⟩ h1
    | Option.none => .stuck
  | .val x, σ, h => (ev C x σ h).bind fun v h1 => .ofOpt (srcV v h1) h1
  | .rev x, σ, h => (ev C x σ h).bind fun v h1 => .ofOpt (srcR v h1) h1
noncomputable def evT (C : Cx) : List X → Sto → List (H → R V)
  | [], _ => []
  | e :: es, σ => (fun h => ev C e σ h) :: evT C es σ
end

mutual
noncomputable def ex (C : Cx) : S → Sto → H → RS
  | .assign i e, σ, h => match ev C e σ h with
    | .ok v h1 => .next (upd σ i v) h1
    | .exc c h1 => .exc c σ h1
    | .stuck => .stuck
  | .unpack is e, σ, h => match ev C e σ h with
    | .ok v h1 => match tupAt h1 v with
      | some vs => if C.calm = true ∧ vs.length = is.length then .next (updL σ is vs) h1 else .stuck
      | Option.none => .stuck
    | .exc c h1 => .exc c σ h1
    | .stuck => .stuck
  | .expr e, σ, h => match ev C e σ h with
    | .ok _ h1 => .next σ h1
    | .exc c h1 => .exc c σ h1
    | .stuck => .stuck
  | .ite t a b, σ, h => match ev C t σ h with
    | .ok v h1 => match truthV v with
      | some true => exs C a σ h1
      | some false => exs C b σ h1
      | Option.none => .stuck
    | .exc c h1 => .exc c σ h1
    | .stuck => .stuck
  | .for v it body, σ, h => match evS C it σ h with
    | .ok src h1 => if C.calm = true then forR src (fun x σ1 h2 => exs C body (upd σ1 v x) h2) src.items σ h1 else .stuck
    | .exc c h1 => .exc c σ h1
    | .stuck => .stuck
  | .ret e, σ, h => match ev C e σ h with
    | .ok v h1 => .ret v h1
    | .exc c h1 => .exc c σ h1
    | .stuck => .stuck
  | .raise c, σ, h => if C.calm = true then .exc c σ h else .stuck
  | .try body c v hd, σ, h => match exs C body σ h with
    | .exc c' σ1 h1 => if C.calm = true ∧ (c' == c || c == 0) then
        match ev C.loose hd (upd σ1 v (.ref h1.length)) (h1 ++ [.exc c']) with
        | .ok x h2 => .ret x h2
        | _ => .stuck
      else .stuck
    | r => r
  | .dead, _, _ => .stuck
noncomputable def exs (C : Cx) : List S → Sto → H → RS
  | [], σ, h => .next σ h
  | s :: ss, σ, h => match ex C s σ h with
    | .next σ1 h1 => exs C ss σ1 h1
    | r => r
end


end Mine

set_option autoImplicit false
set_option linter.unusedVariables false
namespace Mine
open PySem PyProof.Rows

/-- names: slots, defs, constants, classes -/
structure Tab where
  vars : List Str
  fns : List (Option Str)
  glbs : List Str
  clss : List (Option Str)

noncomputable def clsName (T : Tab) (k : Nat) : Option Str := (T.clss[k]?).join

/-- what stays fixed through the law's call -/
structure Wd where
  prog : Program
  w : World
  h₀ : Heap
  os₀ : OsState
  gens₀ : Array GenState
  T : Tab
  cls : Nat → Option Value
  mg : Str → Option Value
  mb : Str → Option Value
  /-- the frames that stand, the innermost first -/
  fr : List Env

inductive VR (ρ : List Addr) : V → Value → Prop where
  | none : VR ρ .none .none
  | bool (b : Bool) : VR ρ (.bool b) (.bool b)
  | int (i : Int) (t : Tok) : VR ρ (.int i) (.int i t)
  | str (s : Str) (t : Tok) : VR ρ (.str s) (.str s t)
  | ref (i : Nat) (a : Addr) : ρ[i]? = some a → VR ρ (.ref i) (.ref a)

inductive VRs (ρ : List Addr) : List V → List Value → Prop where
  | nil : VRs ρ [] []
  | cons {v : V} {x : Value} {vs : List V} {xs : List Value} : VR ρ v x → VRs ρ vs xs → VRs ρ (v :: vs) (x :: xs)

theorem VR.mono {ρ δ : List Addr} {v : V} {x : Value} (h : VR ρ v x) : VR (ρ ++ δ) v x := by
  cases h with
  | none => exact .none
  | bool b => exact .bool b
  | int i t => exact .int i t
  | str s t => exact .str s t
  | ref i a e => exact .ref i a (by rw [List.getElem?_append_left (List.getElem?_eq_some_iff.mp e).1]; exact e)
theorem VRs.mono {ρ δ : List Addr} {vs : List V} {xs : List Value} (h : VRs ρ vs xs) : VRs (ρ ++ δ) vs xs := by
  induction h with
  | nil => exact .nil
  | cons a _ ih => exact .cons a.mono ih
theorem VRs.length {ρ : List Addr} {vs : List V} {xs : List Value} (h : VRs ρ vs xs) : vs.length = xs.length := by
  induction h with
  | nil => rfl
  | cons _ _ ih => simp [ih]
theorem VRs.at {ρ : List Addr} {vs : List V} {xs : List Value} (h : VRs ρ vs xs) : ∀ {i : Nat} {v : V}, vs[i]? = some v → ∃ x, xs[i]? = some x ∧ VR ρ v x := by
  induction h with
  | nil => intro i v e; simp at e
  | cons a _ ih =>
    intro i v e
    cases i with
    | zero => simp at e; subst e; exact ⟨_, by simp, a⟩
    | succ j => simp at e; simpa using ih e
theorem VRs.append {ρ : List Addr} {vs ws : List V} {xs ys : List Value} (h : VRs ρ vs xs) (g : VRs ρ ws ys) : VRs ρ (vs ++ ws) (xs ++ ys) := by
  induction h with
  | nil => exact g
  | cons a _ ih => exact .cons a ih
theorem VRs.snoc {ρ : List Addr} {vs : List V} {v : V} {xs : List Value} {x : Value} (h : VRs ρ vs xs) (g : VR ρ v x) : VRs ρ (vs ++ [v]) (xs ++ [x]) := h.append (.cons g .nil)

/-- an object left as it was, a frame's slots apart -/
noncomputable def Kp (o o' : Obj) : Prop := o' = o ∨ ((∃ es n, o.data = .dict es n) ∧ ∃ sl, o' = { o with slots := sl })
theorem Kp.refl (o : Obj) : Kp o o := .inl rfl
theorem Kp.data {o o' : Obj} (h : Kp o o') : o'.data = o.data := by
  rcases h with rfl | ⟨_, sl, rfl⟩ <;> rfl
theorem Kp.cls {o o' : Obj} (h : Kp o o') : o'.cls = o.cls := by
  rcases h with rfl | ⟨_, sl, rfl⟩ <;> rfl
theorem Kp.trans {o o' o'' : Obj} (h : Kp o o') (g : Kp o' o'') : Kp o o'' := by
  rcases h with rfl | ⟨⟨es, n, hd⟩, sl, rfl⟩
  · exact g
  · rcases g with rfl | ⟨_, sl', rfl⟩
    · exact .inr ⟨⟨es, n, hd⟩, sl, rfl⟩
    · exact .inr ⟨⟨es, n, hd⟩, sl', rfl⟩
theorem Kp.eq {o o' : Obj} (h : Kp o o') (hn : ∀ es n, o.data ≠ .dict es n) : o' = o := by
  rcases h with rfl | ⟨⟨es, n, hd⟩, _⟩
  · rfl
  · exact absurd hd (hn es n)

noncomputable def OR (W : Wd) (ρ : List Addr) (h : Heap) (a : Addr) : O → Prop
  | .list vs => ∃ items, h.PlainList a items ∧ VRs ρ vs items.toList
  | .tuple vs => ∃ items n, h.get? a = some { cls := .type "tuple", data := .seq items n } ∧ VRs ρ vs items.toList
  | .frozen vs => ∃ items, h.IsList a items ∧ VRs ρ vs items.toList
  | .dict es => es = [] ∧ ∃ o n, h.get? a = some o ∧ o.cls = .type "dict" ∧ o.data = .dict #[] n
  | .exc c => ∃ o C, h.get? a = some o ∧ W.cls c = some C ∧ o.cls = C ∧ ∃ vs, o.data = .fields vs

structure HR (W : Wd) (ρ : List Addr) (H : H) (h : Heap) : Prop where
  len : ρ.length = H.length
  obj : ∀ (i : Nat) (o : O), H[i]? = some o → ∃ a, ρ[i]? = some a ∧ OR W ρ h a o

structure EnvR (W : Wd) (env : Env) (ρ : List Addr) (σ : Sto) (h : Heap) : Prop where
  kind : env.scope.kind = .function
  glob : env.globals = mainGlobals
  blt : env.builtins = builtinsNs
  ns : ∃ m, h.Ns env.locals m ∧ ∀ i v n, σ i = some v → W.T.vars[i]? = some n → env.kindOf n = some .local → ∃ x, m n = some x ∧ VR ρ v x
  cell : ∀ n, env.kindOf n = some .cell ∨ env.kindOf n = some .free → ∃ c x, env.cells.lookup n = some c ∧ h.IsCell c x ∧ c ∉ ρ ∧ W.h₀.get? c = none ∧
    ∀ i v, σ i = some v → W.T.vars[i]? = some n → ∃ y, x = some y ∧ VR ρ v y
  inj : ∀ n n' c, env.cells.lookup n = some c → env.cells.lookup n' = some c → n = n'
  loc : env.locals ∉ ρ
  new : W.h₀.get? env.locals = none

/-- a frame's address -/
noncomputable def FrAt (W : Wd) (ρ : List Addr) (h : Heap) (e : Env) : Prop :=
  e.scope.kind ≠ .module ∧ ∃ L o es n, e.frame = some L ∧ L ∉ ρ ∧ W.h₀.get? L = none ∧ h.get? L = some o ∧ o.data = .dict es n

structure RelH (W : Wd) (ρ : List Addr) (H : H) (s : Shared) : Prop where
  frs : ∀ e ∈ W.fr, FrAt W ρ s.heap e
  keep : ∀ b o, W.h₀.get? b = some o → s.heap.get? b = some o
  os : s.os = W.os₀
  gens : s.gens = W.gens₀
  heap : HR W ρ H s.heap
  nodup : ρ.Nodup
  new : ∀ (i : Nat) (a : Addr), ρ[i]? = some a → (∃ vs, H[i]? = some (O.frozen vs)) ∨ W.h₀.get? a = none

structure Rel (W : Wd) (env : Env) (ρ : List Addr) (σ : Sto) (H : H) (s : Shared) : Prop extends RelH W ρ H s where
  env : EnvR W env ρ σ s.heap

/-- what a piece of a run leaves: all but what it owns and the small heap's objects -/
structure Step (own : Addr → Prop) (ρ : List Addr) (s : Shared) (ρ' : List Addr) (s' : Shared) : Prop where
  ext : ∃ δ, ρ' = ρ ++ δ ∧ ∀ b ∈ δ, s.heap.get? b = none
  keep : ∀ b o, s.heap.get? b = some o → b ∉ ρ → ¬ own b → ∃ o', s'.heap.get? b = some o' ∧ Kp o o'
  live : ∀ b o, s.heap.get? b = some o → ∃ o', s'.heap.get? b = some o'

noncomputable def no : Addr → Prop := fun _ => False
noncomputable def mine (env : Env) : Addr → Prop := fun b => b = env.locals ∨ ∃ n, env.kindOf n = some .cell ∧ env.cells.lookup n = some b

theorem Step.refl {own : Addr → Prop} (ρ : List Addr) (s : Shared) : Step own ρ s ρ s :=
  ⟨⟨[], by simp, by simp⟩, fun _ o e _ _ => ⟨o, e, .refl o⟩, fun _ o e => ⟨o, e⟩⟩
theorem Step.toks {own : Addr → Prop} (ρ : List Addr) (s : Shared) (tk : Nat) : Step own ρ s ρ { s with toks := tk } :=
  ⟨⟨[], by simp, by simp⟩, fun _ o e _ _ => ⟨o, e, .refl o⟩, fun _ o e => ⟨o, e⟩⟩
theorem Step.trans {own : Addr → Prop} {ρ₁ ρ₂ ρ₃ : List Addr} {s₁ s₂ s₃ : Shared} (x : Step own ρ₁ s₁ ρ₂ s₂) (y : Step own ρ₂ s₂ ρ₃ s₃) : Step own ρ₁ s₁ ρ₃ s₃ := by
  obtain ⟨δ₁, rfl, n₁⟩ := x.ext
  obtain ⟨δ₂, rfl, n₂⟩ := y.ext
  refine ⟨⟨δ₁ ++ δ₂, by simp, fun b hb => ?_⟩, fun b o e hb ho => ?_, fun b o e => ?_⟩
  · rcases List.mem_append.mp hb with hb | hb
    · exact n₁ b hb
    · cases q : s₁.heap.get? b with
      | none => rfl
      | some o => obtain ⟨o', e'⟩ := x.live b o q; rw [n₂ b hb] at e'; cases e'
  · obtain ⟨o₂, e₂, k₂⟩ := x.keep b o e hb ho
    obtain ⟨o₃, e₃, k₃⟩ := y.keep b o₂ e₂ (fun hm => by
      rcases List.mem_append.mp hm with hm | hm
      · exact hb hm
      · rw [n₁ b hm] at e; cases e) ho
    exact ⟨o₃, e₃, k₂.trans k₃⟩
  · obtain ⟨o₂, e₂⟩ := x.live b o e
    exact y.live b o₂ e₂
theorem Step.weaken {own own' : Addr → Prop} {ρ ρ' : List Addr} {s s' : Shared} (x : Step own ρ s ρ' s') (h : ∀ b o, s.heap.get? b = some o → own b → own' b) : Step own' ρ s ρ' s' :=
  ⟨x.ext, fun b o e hb ho => x.keep b o e hb fun q => ho (h b o e q), x.live⟩
theorem Step.of_no {own : Addr → Prop} {ρ ρ' : List Addr} {s s' : Shared} (x : Step no ρ s ρ' s') : Step own ρ s ρ' s' := x.weaken fun _ _ _ q => q.elim
theorem Step.vr {own : Addr → Prop} {ρ ρ' : List Addr} {s s' : Shared} (x : Step own ρ s ρ' s') {v : V} {y : Value} (h : VR ρ v y) : VR ρ' v y := by
  obtain ⟨δ, rfl, _⟩ := x.ext; exact h.mono
theorem Step.vrs {own : Addr → Prop} {ρ ρ' : List Addr} {s s' : Shared} (x : Step own ρ s ρ' s') {v : List V} {y : List Value} (h : VRs ρ v y) : VRs ρ' v y := by
  obtain ⟨δ, rfl, _⟩ := x.ext; exact h.mono
/-- the heap grew, nothing else -/
theorem Step.grow {own : Addr → Prop} {ρ : List Addr} {s s' : Shared} (hk : ∀ b o, s.heap.get? b = some o → s'.heap.get? b = some o) : Step own ρ s ρ s' :=
  ⟨⟨[], by simp, by simp⟩, fun b o e _ _ => ⟨o, hk b o e, .refl o⟩, fun b o e => ⟨o, hk b o e⟩⟩
theorem Step.fresh {own : Addr → Prop} {ρ ρ' : List Addr} {s s' : Shared} (x : Step own ρ s ρ' s') {b : Addr} {o : Obj} (e : s.heap.get? b = some o) (hb : b ∉ ρ) : b ∉ ρ' := by
  obtain ⟨δ, rfl, n⟩ := x.ext
  intro hm
  rcases List.mem_append.mp hm with hm | hm
  · exact hb hm
  · rw [n b hm] at e; cases e

theorem isList_kp {h h' : Heap} {a : Addr} {items : Array Value} (x : h.IsList a items) (k : ∀ o, h.get? a = some o → ∃ o', h'.get? a = some o' ∧ Kp o o') : h'.IsList a items := by
  obtain ⟨o, ho, hc, n, hd⟩ := x
  obtain ⟨o', ho', hk⟩ := k o ho
  exact ⟨o', ho', hk.cls.trans hc, n, hk.data.trans hd⟩
theorem isCell_kp {h h' : Heap} {a : Addr} {v : Option Value} (x : h.IsCell a v) (k : ∀ o, h.get? a = some o → ∃ o', h'.get? a = some o' ∧ Kp o o') : h'.IsCell a v := by
  obtain ⟨o, ho, hd⟩ := x
  obtain ⟨o', ho', hk⟩ := k o ho
  exact ⟨o', ho', hk.data.trans hd⟩
theorem ns_kp {h h' : Heap} {a : Addr} {m : Str → Option Value} (x : h.Ns a m) (k : ∀ o, h.get? a = some o → ∃ o', h'.get? a = some o' ∧ Kp o o') : h'.Ns a m := by
  obtain ⟨o, es, ep, ho, hd, r⟩ := x
  obtain ⟨o', ho', hk⟩ := k o ho
  exact ⟨o', es, ep, ho', hk.data.trans hd, r⟩

theorem OR.kp {W : Wd} {ρ : List Addr} {h h' : Heap} {a : Addr} {o : O} (x : OR W ρ h a o) (k : ∀ o, h.get? a = some o → ∃ o', h'.get? a = some o' ∧ Kp o o') : OR W ρ h' a o := by
  cases o with
  | list vs =>
    obtain ⟨items, ⟨n, ho⟩, r⟩ := x
    obtain ⟨o', ho', hk⟩ := k _ ho
    exact ⟨items, ⟨n, by rw [ho', hk.eq (by simp)]⟩, r⟩
  | tuple vs =>
    obtain ⟨items, n, ho, r⟩ := x
    obtain ⟨o', ho', hk⟩ := k _ ho
    exact ⟨items, n, by rw [ho', hk.eq (by simp)], r⟩
  | frozen vs => obtain ⟨items, hl, r⟩ := x; exact ⟨items, isList_kp hl k, r⟩
  | dict es =>
    obtain ⟨e, o, n, ho, hc, hd⟩ := x
    obtain ⟨o', ho', hk⟩ := k o ho
    exact ⟨e, o', n, ho', hk.cls.trans hc, hk.data.trans hd⟩
  | exc c =>
    obtain ⟨o, C, ho, hW, hc, vs, hd⟩ := x
    obtain ⟨o', ho', hk⟩ := k o ho
    exact ⟨o', C, ho', hW, hk.cls.trans hc, vs, hk.data.trans hd⟩
theorem OR.mono {W : Wd} {ρ δ : List Addr} {h : Heap} {a : Addr} {o : O} (x : OR W ρ h a o) : OR W (ρ ++ δ) h a o := by
  cases o with
  | list vs => obtain ⟨items, hl, r⟩ := x; exact ⟨items, hl, r.mono⟩
  | tuple vs => obtain ⟨items, n, hl, r⟩ := x; exact ⟨items, n, hl, r.mono⟩
  | frozen vs => obtain ⟨items, hl, r⟩ := x; exact ⟨items, hl, r.mono⟩
  | dict es => exact x
  | exc c => exact x
theorem OR.lt {W : Wd} {ρ : List Addr} {h : Heap} {a : Addr} {o : O} (x : OR W ρ h a o) : ∃ ob, h.get? a = some ob := by
  cases o with
  | list vs => obtain ⟨items, ⟨n, ho⟩, r⟩ := x; exact ⟨_, ho⟩
  | tuple vs => obtain ⟨items, n, ho, r⟩ := x; exact ⟨_, ho⟩
  | frozen vs => obtain ⟨items, ⟨ob, ho, _⟩, r⟩ := x; exact ⟨ob, ho⟩
  | dict es => obtain ⟨_, ob, n, ho, _⟩ := x; exact ⟨ob, ho⟩
  | exc c => obtain ⟨ob, C, ho, _⟩ := x; exact ⟨ob, ho⟩

theorem HR.kp {W : Wd} {ρ : List Addr} {H : H} {h h' : Heap} (x : HR W ρ H h) (k : ∀ a ∈ ρ, ∀ o, h.get? a = some o → ∃ o', h'.get? a = some o' ∧ Kp o o') : HR W ρ H h' :=
  ⟨x.len, fun i o e => let ⟨a, ha, r⟩ := x.obj i o e; ⟨a, ha, r.kp (k a (List.mem_of_getElem? ha))⟩⟩
theorem HR.live {W : Wd} {ρ : List Addr} {H : H} {h : Heap} (x : HR W ρ H h) {a : Addr} (ha : a ∈ ρ) : ∃ o, h.get? a = some o := by
  obtain ⟨i, hi, e⟩ := List.getElem_of_mem ha
  have hi' : i < H.length := by rw [← x.len]; exact hi
  obtain ⟨b, hb, r⟩ := x.obj i H[i] (by simp [hi'])
  have : b = a := by
    have q : ρ[i]? = some a := by rw [List.getElem?_eq_getElem hi, e]
    rw [q] at hb; exact (Option.some.inj hb).symm
  subst this
  exact r.lt

theorem EnvR.kp {W : Wd} {env : Env} {ρ : List Addr} {σ : Sto} {h h' : Heap} (x : EnvR W env ρ σ h) (k : ∀ b o, h.get? b = some o → b ∉ ρ → (∀ vs, o.data ≠ .fields vs) → ∃ o', h'.get? b = some o' ∧ Kp o o') : EnvR W env ρ σ h' := by
  refine ⟨x.kind, x.glob, x.blt, ?_, fun n hn => ?_, x.inj, x.loc, x.new⟩
  · obtain ⟨m, hm, r⟩ := x.ns
    exact ⟨m, ns_kp hm fun o e => k _ o e x.loc fun vs q => (by obtain ⟨o', _, _, ho, hd, _⟩ := hm; rw [e] at ho; cases ho; rw [hd] at q; cases q), r⟩
  · obtain ⟨c, y, h1, h2, h3, h4, h5⟩ := x.cell n hn
    exact ⟨c, y, h1, isCell_kp h2 fun o e => k _ o e h3 fun vs q => (by obtain ⟨o', ho, hd⟩ := h2; rw [e] at ho; cases ho; rw [hd] at q; cases q), h3, h4, h5⟩
theorem EnvR.mono {W : Wd} {env : Env} {ρ δ : List Addr} {σ : Sto} {h : Heap} (x : EnvR W env ρ σ h) (hl : env.locals ∉ δ)
    (hc : ∀ n c, env.kindOf n = some .cell ∨ env.kindOf n = some .free → env.cells.lookup n = some c → c ∉ δ) : EnvR W env (ρ ++ δ) σ h := by
  refine ⟨x.kind, x.glob, x.blt, ?_, fun n hn => ?_, x.inj, fun hm => ?_, x.new⟩
  · obtain ⟨m, hm, r⟩ := x.ns
    exact ⟨m, hm, fun i v n h1 h2 h3 => let ⟨y, hy, hv⟩ := r i v n h1 h2 h3; ⟨y, hy, hv.mono⟩⟩
  · obtain ⟨c, y, h1, h2, h3, h4, h5⟩ := x.cell n hn
    refine ⟨c, y, h1, h2, fun hm => ?_, h4, fun i v e1 e2 => let ⟨z, e, r⟩ := h5 i v e1 e2; ⟨z, e, r.mono⟩⟩
    rcases List.mem_append.mp hm with hm | hm
    · exact h3 hm
    · exact hc n c hn h1 hm
  · rcases List.mem_append.mp hm with hm | hm
    · exact x.loc hm
    · exact hl hm

theorem FrAt.grow {W : Wd} {ρ : List Addr} {h h' : Heap} {e : Env} (x : FrAt W ρ h e) (hk : ∀ b o, h.get? b = some o → h'.get? b = some o) : FrAt W ρ h' e := by
  obtain ⟨k, L, o, es, n, h1, h2, h3, h4, h5⟩ := x
  exact ⟨k, L, o, es, n, h1, h2, h3, hk L o h4, h5⟩
theorem FrAt.but {W : Wd} {ρ : List Addr} {h h' : Heap} {e : Env} {b : Addr} (x : FrAt W ρ h e) (hk : Heap.ExtBut b h h') (hb : e.frame ≠ some b ∨ ∃ o es n, h'.get? b = some o ∧ o.data = .dict es n) : FrAt W ρ h' e := by
  obtain ⟨k, L, o, es, n, h1, h2, h3, h4, h5⟩ := x
  by_cases q : L = b
  · subst q
    rcases hb with hb | ⟨o', es', n', g1, g2⟩
    · exact absurd h1 hb
    · exact ⟨k, L, o', es', n', h1, h2, h3, g1, g2⟩
  · exact ⟨k, L, o, es, n, h1, h2, h3, hk L o q h4, h5⟩
theorem FrAt.mono {W : Wd} {ρ δ : List Addr} {h : Heap} {e : Env} (x : FrAt W ρ h e) (hd : ∀ b ∈ δ, e.frame ≠ some b) : FrAt W (ρ ++ δ) h e := by
  obtain ⟨k, L, o, es, n, h1, h2, h3, h4, h5⟩ := x
  refine ⟨k, L, o, es, n, h1, fun hm => ?_, h3, h4, h5⟩
  rcases List.mem_append.mp hm with hm | hm
  · exact h2 hm
  · exact hd L hm h1
theorem RelH.noFr {W : Wd} {ρ : List Addr} {H : H} {s : Shared} (x : RelH W ρ H s) {a : Addr} (ha : ∀ o es n, s.heap.get? a = some o → o.data ≠ .dict es n) : ∀ e ∈ W.fr, e.frame ≠ some a := fun e he q => by
  obtain ⟨k, L, o, es, n, h1, h2, h3, h4, h5⟩ := x.frs e he
  rw [h1] at q; cases q
  exact ha o es n h4 h5

/-- the heap grew, nothing else -/
theorem RelH.grow {W : Wd} {ρ : List Addr} {H : H} {s : Shared} (x : RelH W ρ H s) {h' : Heap} {tk : Nat} (hk : ∀ b o, s.heap.get? b = some o → h'.get? b = some o) :
    RelH W ρ H { s with heap := h', toks := tk } :=
  ⟨fun e he => (x.frs e he).grow hk, fun b o e => hk b o (x.keep b o e), x.os, x.gens, x.heap.kp fun a _ o e => ⟨o, hk a o e, .refl o⟩, x.nodup, x.new⟩
theorem Rel.grow {W : Wd} {env : Env} {ρ : List Addr} {σ : Sto} {H : H} {s : Shared} (x : Rel W env ρ σ H s) {h' : Heap} {tk : Nat} (hk : ∀ b o, s.heap.get? b = some o → h'.get? b = some o) :
    Rel W env ρ σ H { s with heap := h', toks := tk } := ⟨x.toRelH.grow hk, x.env.kp fun b o e _ _ => ⟨o, hk b o e, .refl o⟩⟩
theorem RelH.toks {W : Wd} {ρ : List Addr} {H : H} {s : Shared} (x : RelH W ρ H s) {tk : Nat} : RelH W ρ H { s with toks := tk } :=
  ⟨x.frs, x.keep, x.os, x.gens, x.heap, x.nodup, x.new⟩
theorem Rel.toks {W : Wd} {env : Env} {ρ : List Addr} {σ : Sto} {H : H} {s : Shared} (x : Rel W env ρ σ H s) {tk : Nat} : Rel W env ρ σ H { s with toks := tk } :=
  ⟨x.toRelH.toks, x.env⟩

/-- a real object taken into the small heap -/
theorem RelH.adopt {W : Wd} {ρ : List Addr} {H : H} {s : Shared} (x : RelH W ρ H s) {a : Addr} {o : O} (ho : OR W (ρ ++ [a]) s.heap a o) (ha : a ∉ ρ) (hn : W.h₀.get? a = none) (hq : ∀ e ∈ W.fr, e.frame ≠ some a) : RelH W (ρ ++ [a]) (H ++ [o]) s := by
  refine ⟨fun e he => (x.frs e he).mono (by simpa using hq e he), x.keep, x.os, x.gens, ⟨by simp [x.heap.len], fun i o' e => ?_⟩, ?_, fun i b e => ?_⟩
  · by_cases hi : i < H.length
    · rw [List.getElem?_append_left hi] at e
      obtain ⟨b, hb, r⟩ := x.heap.obj i o' e
      exact ⟨b, by rw [List.getElem?_append_left (by rw [x.heap.len]; exact hi)]; exact hb, r.mono⟩
    · have hi' : i = H.length := by
        have := (List.getElem?_eq_some_iff.mp e).1
        simp at this; omega
      subst hi'
      simp at e; subst e
      exact ⟨a, by rw [← x.heap.len]; simp, ho⟩
  · rw [List.nodup_append]
    exact ⟨x.nodup, by simp, fun b hb c hc e => ha (by simp at hc; rw [← hc, ← e]; exact hb)⟩
  · by_cases hi : i < ρ.length
    · rw [List.getElem?_append_left hi] at e
      rw [List.getElem?_append_left (by rw [← x.heap.len]; exact hi)]
      exact x.new i b e
    · have : i = ρ.length := by
        have := (List.getElem?_eq_some_iff.mp e).1
        simp at this; omega
      rw [this] at e; simp at e; subst e; exact .inr hn
theorem Rel.adopt {W : Wd} {env : Env} {ρ : List Addr} {σ : Sto} {H : H} {s : Shared} (x : Rel W env ρ σ H s) {a : Addr} {o : O} (ho : OR W (ρ ++ [a]) s.heap a o) (ha : a ∉ ρ) (hn : W.h₀.get? a = none)
    (hl : env.locals ≠ a) (hc : ∀ n c, env.kindOf n = some .cell ∨ env.kindOf n = some .free → env.cells.lookup n = some c → c ≠ a) (hq : ∀ e ∈ W.fr, e.frame ≠ some a) : Rel W env (ρ ++ [a]) σ (H ++ [o]) s :=
  ⟨x.toRelH.adopt ho ha hn hq, x.env.mono (by simpa using hl) fun n c hk hlk => by simpa using hc n c hk hlk⟩

theorem EnvR.alive {W : Wd} {env : Env} {ρ : List Addr} {σ : Sto} {h : Heap} (x : EnvR W env ρ σ h) : ∃ o, h.get? env.locals = some o := by
  obtain ⟨m, ⟨o, _, _, ho, _⟩, _⟩ := x.ns; exact ⟨o, ho⟩
theorem EnvR.cellAlive {W : Wd} {env : Env} {ρ : List Addr} {σ : Sto} {h : Heap} (x : EnvR W env ρ σ h) {n : Str} {c : Addr} (hk : env.kindOf n = some .cell ∨ env.kindOf n = some .free) (hc : env.cells.lookup n = some c) : ∃ o, h.get? c = some o := by
  obtain ⟨c', _, h1, ⟨o, ho, _⟩, _⟩ := x.cell n hk
  rw [h1] at hc; cases hc; exact ⟨o, ho⟩
theorem RelH.fresh {W : Wd} {ρ : List Addr} {H : H} {s : Shared} (x : RelH W ρ H s) {a : Addr} (ha : s.heap.get? a = none) : a ∉ ρ ∧ W.h₀.get? a = none := by
  refine ⟨fun hm => ?_, ?_⟩
  · obtain ⟨o, e⟩ := x.heap.live hm; rw [ha] at e; cases e
  · cases q : W.h₀.get? a with
    | none => rfl
    | some o => have := x.keep a o q; rw [ha] at this; cases this
theorem Rel.fresh {W : Wd} {env : Env} {ρ : List Addr} {σ : Sto} {H : H} {s : Shared} (x : Rel W env ρ σ H s) {a : Addr} (ha : s.heap.get? a = none) :
    a ∉ ρ ∧ W.h₀.get? a = none ∧ env.locals ≠ a ∧ (∀ n c, env.kindOf n = some .cell ∨ env.kindOf n = some .free → env.cells.lookup n = some c → c ≠ a) ∧ ∀ e ∈ W.fr, e.frame ≠ some a := by
  refine ⟨(x.toRelH.fresh ha).1, (x.toRelH.fresh ha).2, fun q => ?_, fun n c hk hc q => ?_, x.toRelH.noFr fun o es n e => by rw [ha] at e; cases e⟩
  · obtain ⟨o, e⟩ := x.env.alive; rw [q, ha] at e; cases e
  · obtain ⟨o, e⟩ := x.env.cellAlive hk hc; rw [q, ha] at e; cases e

/-- a new object -/
theorem Rel.push {W : Wd} {env : Env} {ρ : List Addr} {σ : Sto} {H : H} {s : Shared} (x : Rel W env ρ σ H s) {ob : Obj} {o : O} {tk : Nat}
    (ho : OR W (ρ ++ [s.heap.objs.size]) (s.heap.push ob) s.heap.objs.size o) : Rel W env (ρ ++ [s.heap.objs.size]) σ (H ++ [o]) { s with heap := s.heap.push ob, toks := tk } := by
  have f := x.fresh (Heap.get?_none_of_le (Nat.le_refl s.heap.objs.size))
  exact (x.grow (tk := tk) fun b o e => Heap.get?_push_of_some ob e).adopt ho f.1 f.2.1 f.2.2.1 f.2.2.2.1 f.2.2.2.2
theorem Step.push {own : Addr → Prop} {ρ : List Addr} {s : Shared} {ob : Obj} {tk : Nat} : Step own ρ s (ρ ++ [s.heap.objs.size]) { s with heap := s.heap.push ob, toks := tk } :=
  ⟨⟨_, rfl, by simpa using Heap.get?_none_of_le (Nat.le_refl _)⟩, fun b o e _ _ => ⟨o, Heap.get?_push_of_some ob e, .refl o⟩, fun b o e => ⟨o, Heap.get?_push_of_some ob e⟩⟩

/-- an object of the small heap changed -/
theorem RelH.change {W : Wd} {ρ : List Addr} {H : H} {s : Shared} (x : RelH W ρ H s) {i : Nat} {a : Addr} {o o₁ : O} {h' : Heap} {tk : Nat} (hi : ρ[i]? = some a) (h1 : H[i]? = some o₁) (hf : ∀ vs, o₁ ≠ .frozen vs)
    (ho : OR W ρ h' a o) (hs : Heap.SameBut a s.heap h') : RelH W ρ (H.set i o) { s with heap := h', toks := tk } := by
  have other : ∀ b, b ≠ a → h'.get? b = s.heap.get? b := fun b hb => hs.2 b hb
  have hn : W.h₀.get? a = none := by
    rcases x.new i a hi with ⟨vs, e⟩ | e
    · rw [h1] at e; cases e; exact absurd rfl (hf vs)
    · exact e
  have hl : i < H.length := (List.getElem?_eq_some_iff.mp h1).1
  refine ⟨fun e he => (x.frs e he).but hs.extBut (.inl fun q => ?_), fun b o e => ?_, x.os, x.gens, ⟨by simp [x.heap.len], fun j o' e => ?_⟩, x.nodup, fun j b e => ?_⟩
  · obtain ⟨_, L, _, _, _, g1, g2, _⟩ := x.frs e he
    rw [g1] at q; cases q
    exact g2 (List.mem_of_getElem? hi)
  · rw [other b fun q => by rw [q, hn] at e; cases e]; exact x.keep b o e
  · by_cases hj : i = j
    · subst hj
      rw [List.getElem?_set_self hl] at e
      cases e
      exact ⟨a, hi, ho⟩
    · rw [List.getElem?_set_ne hj] at e
      obtain ⟨b, hb, r⟩ := x.heap.obj j o' e
      have hba : b ≠ a := fun q => by
        subst q
        exact hj ((List.getElem?_inj (List.getElem?_eq_some_iff.mp hi).1 x.nodup).mp (hi.trans hb.symm))
      exact ⟨b, hb, r.kp fun o e => ⟨o, by rw [other b hba]; exact e, .refl o⟩⟩
  · by_cases hj : i = j
    · subst hj; rw [hi] at e; cases e; exact .inr hn
    · rw [List.getElem?_set_ne hj]; exact x.new j b e
theorem Rel.change {W : Wd} {env : Env} {ρ : List Addr} {σ : Sto} {H : H} {s : Shared} (x : Rel W env ρ σ H s) {i : Nat} {a : Addr} {o o₁ : O} {h' : Heap} {tk : Nat} (hi : ρ[i]? = some a) (h1 : H[i]? = some o₁) (hf : ∀ vs, o₁ ≠ .frozen vs)
    (ho : OR W ρ h' a o) (hs : Heap.SameBut a s.heap h') : Rel W env ρ σ (H.set i o) { s with heap := h', toks := tk } :=
  ⟨x.toRelH.change hi h1 hf ho hs, x.env.kp fun b o e hb _ => ⟨o, by rw [show h'.get? b = s.heap.get? b from hs.2 b fun q => hb (q ▸ List.mem_of_getElem? hi)]; exact e, .refl o⟩⟩
theorem Step.change {own : Addr → Prop} {ρ : List Addr} {s : Shared} {i : Nat} {a : Addr} {h' : Heap} {tk : Nat} (hi : ρ[i]? = some a) (hs : Heap.SameBut a s.heap h') (hl : ∃ o, h'.get? a = some o) :
    Step own ρ s ρ { s with heap := h', toks := tk } :=
  ⟨⟨[], by simp, by simp⟩, fun b o e hb _ => ⟨o, by rw [show h'.get? b = s.heap.get? b from hs.2 b fun q => hb (q ▸ List.mem_of_getElem? hi)]; exact e, .refl o⟩, fun b o e => by
    by_cases q : b = a
    · subst q; exact hl
    · exact ⟨o, by rw [show h'.get? b = s.heap.get? b from hs.2 b q]; exact e⟩⟩
/-- a frame behind a step that owns nothing of it -/
theorem EnvR.step {W : Wd} {env : Env} {ρ ρ' : List Addr} {σ : Sto} {own : Addr → Prop} {s s' : Shared} (x : EnvR W env ρ σ s.heap) (st : Step own ρ s ρ' s')
    (hl : ¬ own env.locals) (hc : ∀ n c, env.kindOf n = some .cell ∨ env.kindOf n = some .free → env.cells.lookup n = some c → ¬ own c) : EnvR W env ρ' σ s'.heap := by
  obtain ⟨δ, rfl, nw⟩ := st.ext
  have x' : EnvR W env ρ σ s'.heap := by
    refine ⟨x.kind, x.glob, x.blt, ?_, fun n hn => ?_, x.inj, x.loc, x.new⟩
    · obtain ⟨m, hm, r⟩ := x.ns
      exact ⟨m, ns_kp hm fun o e => st.keep _ o e x.loc hl, r⟩
    · obtain ⟨c, y, h1, h2, h3, h4, h5⟩ := x.cell n hn
      exact ⟨c, y, h1, isCell_kp h2 fun o e => st.keep _ o e h3 (hc n c hn h1), h3, h4, h5⟩
  refine x'.mono (fun hm => ?_) fun n c hk hlk hm => ?_
  · obtain ⟨o, e⟩ := x.alive; rw [nw _ hm] at e; cases e
  · obtain ⟨o, e⟩ := x.cellAlive hk hlk; rw [nw _ hm] at e; cases e
end Mine

set_option autoImplicit false
set_option linter.unusedVariables false
namespace Mine
open PySem PyProof.Rows

noncomputable def biName : Bi → Str
  | .len => "len" | .all => "all" | .any => "any" | .list => "list" | .int => "int" | .max => "max" | .min => "min" | .tuple => "tuple" | .sorted => "sorted" | .set => "set"
noncomputable def biVal : Bi → Value
  | .len => .builtin "len" | .all => .builtin "all" | .any => .builtin "any" | .list => .type "list" | .int => .type "int" | .max => .builtin "max" | .min => .builtin "min" | .tuple => .type "tuple"
  | .sorted => .builtin "sorted" | .set => .type "set"
noncomputable def meName : Me → Str
  | .append => "append" | .index => "index" | .pop => "pop" | .clear => "clear"
noncomputable def tyName (T : Tab) : Ty → Option Str
  | .int => some "int" | .bool => some "bool" | .list => some "list" | .tuple => some "tuple" | .str => some "str" | .valueError => some "ValueError" | .exc k => clsName T k

noncomputable def isV (sc : Scope) (n : Str) : Bool := match sc.names.lookup n with
  | some .local => true
  | some .cell => true
  | some .free => true
  | _ => false
noncomputable def isG (sc : Scope) (n : Str) : Bool := sc.names.lookup n == some .globalImplicit
noncomputable def okName (n : Str) : Bool := !(n == ("__debug__" : Str)) && !(n == ("__classdict__" : Str))
noncomputable def notSet : Expr → Bool
  | .Set .. => false
  | _ => true
noncomputable def notCall : Expr → Bool
  | .Call .. => false
  | _ => true
noncomputable def notStar : Expr → Bool
  | .Starred .. => false
  | _ => true


/-- a comprehension's own scope is such as the walk takes -/
noncomputable def compScopeOk (sc outer : Scope) : Bool :=
  decide (sc.kind = .function) && sc.names.all (fun x => decide (x.2 = .local → sc.names.lookup x.1 = some .local)) &&
  sc.names.all (fun x => decide (x.2 = .free → (outer.names.lookup x.1 = some .cell ∨ outer.names.lookup x.1 = some .free) ∧ sc.names.lookup x.1 = some .free)) &&
  sc.names.all (fun x => decide (x.2 = .cell → sc.names.lookup x.1 = some .cell)) && sc.names.all (fun x => decide (x.2 ≠ .globalExplicit)) && decide ((sc.names.map (·.1)).Nodup)

/-! what an expression is -/
theorem map_inv {α : Type} {P : α → Prop} {o : Option {a // P a}} {c : α} (h : o.map (·.1) = some c) : P c := by
  cases o with
  | none => cases h
  | some x => cases h; exact x.2
noncomputable def asConst_v (e : Expr) : Option {c : Const // ∃ k p, e = .Constant c k p} := match e with
  | .Constant c _ _ => some ⟨c, ⟨_, _, rfl⟩⟩
  | _ => none
noncomputable def asConst (e : Expr) : Option Const := (asConst_v e).map (·.1)
noncomputable def asName_v (e : Expr) : Option {c : Str // ∃ p, e = .Name c p} := match e with
  | .Name n _ => some ⟨n, ⟨_, rfl⟩⟩
  | _ => none
noncomputable def asName (e : Expr) : Option Str := (asName_v e).map (·.1)
noncomputable def asBin_v (e : Expr) : Option {c : (Expr × Operator × Expr) // ∃ p, e = .BinOp c.1 c.2.1 c.2.2 p} := match e with
  | .BinOp l o r _ => some ⟨(l, o, r), ⟨_, rfl⟩⟩
  | _ => none
noncomputable def asBin (e : Expr) : Option (Expr × Operator × Expr) := (asBin_v e).map (·.1)
noncomputable def asUn_v (e : Expr) : Option {c : (UnaryOp × Expr) // ∃ p, e = .UnaryOp c.1 c.2 p} := match e with
  | .UnaryOp o x _ => some ⟨(o, x), ⟨_, rfl⟩⟩
  | _ => none
noncomputable def asUn (e : Expr) : Option (UnaryOp × Expr) := (asUn_v e).map (·.1)
noncomputable def asBool_v (e : Expr) : Option {c : (BoolOp × List Expr) // ∃ p, e = .BoolOp c.1 c.2 p} := match e with
  | .BoolOp o xs _ => some ⟨(o, xs), ⟨_, rfl⟩⟩
  | _ => none
noncomputable def asBool (e : Expr) : Option (BoolOp × List Expr) := (asBool_v e).map (·.1)
noncomputable def asIf_v (e : Expr) : Option {c : (Expr × Expr × Expr) // ∃ p, e = .IfExp c.1 c.2.1 c.2.2 p} := match e with
  | .IfExp t a b _ => some ⟨(t, a, b), ⟨_, rfl⟩⟩
  | _ => none
noncomputable def asIf (e : Expr) : Option (Expr × Expr × Expr) := (asIf_v e).map (·.1)
noncomputable def asCmp_v (e : Expr) : Option {c : (Expr × List CmpOp × List Expr) // ∃ p, e = .Compare c.1 c.2.1 c.2.2 p} := match e with
  | .Compare l os rs _ => some ⟨(l, os, rs), ⟨_, rfl⟩⟩
  | _ => none
noncomputable def asCmp (e : Expr) : Option (Expr × List CmpOp × List Expr) := (asCmp_v e).map (·.1)
noncomputable def asCall_v (e : Expr) : Option {c : (Expr × List Expr × List Keyword × Pos) // e = .Call c.1 c.2.1 c.2.2.1 c.2.2.2} := match e with
  | .Call f as ks p => some ⟨(f, as, ks, p), rfl⟩
  | _ => none
noncomputable def asCall (e : Expr) : Option (Expr × List Expr × List Keyword × Pos) := (asCall_v e).map (·.1)
noncomputable def asAttr_v (e : Expr) : Option {c : (Expr × Str × Pos) // e = .Attribute c.1 c.2.1 c.2.2} := match e with
  | .Attribute o n p => some ⟨(o, n, p), rfl⟩
  | _ => none
noncomputable def asAttr (e : Expr) : Option (Expr × Str × Pos) := (asAttr_v e).map (·.1)
noncomputable def asSub_v (e : Expr) : Option {c : (Expr × Expr) // ∃ p, e = .Subscript c.1 c.2 p} := match e with
  | .Subscript o i _ => some ⟨(o, i), ⟨_, rfl⟩⟩
  | _ => none
noncomputable def asSub (e : Expr) : Option (Expr × Expr) := (asSub_v e).map (·.1)
noncomputable def asList_v (e : Expr) : Option {c : (List Expr) // ∃ p, e = .List c p} := match e with
  | .List es _ => some ⟨es, ⟨_, rfl⟩⟩
  | _ => none
noncomputable def asList (e : Expr) : Option (List Expr) := (asList_v e).map (·.1)
noncomputable def asTup_v (e : Expr) : Option {c : (List Expr) // ∃ k p, e = .Tuple c k p} := match e with
  | .Tuple es _ _ => some ⟨es, ⟨_, _, rfl⟩⟩
  | _ => none
noncomputable def asTup (e : Expr) : Option (List Expr) := (asTup_v e).map (·.1)
noncomputable def asDict_v (e : Expr) : Option {c : (List (Option Expr) × List Expr) // ∃ p, e = .Dict c.1 c.2 p} := match e with
  | .Dict ks vs _ => some ⟨(ks, vs), ⟨_, rfl⟩⟩
  | _ => none
noncomputable def asDict (e : Expr) : Option (List (Option Expr) × List Expr) := (asDict_v e).map (·.1)
noncomputable def asSlice_v (e : Expr) : Option {c : (Option Expr × Option Expr × Option Expr) // ∃ p, e = .Slice c.1 c.2.1 c.2.2 p} := match e with
  | .Slice l u s _ => some ⟨(l, u, s), ⟨_, rfl⟩⟩
  | _ => none
noncomputable def asSlice (e : Expr) : Option (Option Expr × Option Expr × Option Expr) := (asSlice_v e).map (·.1)
noncomputable def asComp_v (e : Expr) : Option {c : (Expr × List Comprehension × Scope) // ∃ p, e = .ListComp c.1 c.2.1 c.2.2 p} := match e with
  | .ListComp e gs sc _ => some ⟨(e, gs, sc), ⟨_, rfl⟩⟩
  | _ => none
noncomputable def asComp (e : Expr) : Option (Expr × List Comprehension × Scope) := (asComp_v e).map (·.1)

theorem asConst_inv {e : Expr} {c} (h : asConst e = some c) : ∃ k p, e = .Constant c k p := map_inv (o := asConst_v e) h
theorem asName_inv {e : Expr} {c} (h : asName e = some c) : ∃ p, e = .Name c p := map_inv (o := asName_v e) h
theorem asBin_inv {e : Expr} {c} (h : asBin e = some c) : ∃ p, e = .BinOp c.1 c.2.1 c.2.2 p := map_inv (o := asBin_v e) h
theorem asUn_inv {e : Expr} {c} (h : asUn e = some c) : ∃ p, e = .UnaryOp c.1 c.2 p := map_inv (o := asUn_v e) h
theorem asBool_inv {e : Expr} {c} (h : asBool e = some c) : ∃ p, e = .BoolOp c.1 c.2 p := map_inv (o := asBool_v e) h
theorem asIf_inv {e : Expr} {c} (h : asIf e = some c) : ∃ p, e = .IfExp c.1 c.2.1 c.2.2 p := map_inv (o := asIf_v e) h
theorem asCmp_inv {e : Expr} {c} (h : asCmp e = some c) : ∃ p, e = .Compare c.1 c.2.1 c.2.2 p := map_inv (o := asCmp_v e) h
theorem asCall_inv {e : Expr} {c} (h : asCall e = some c) : e = .Call c.1 c.2.1 c.2.2.1 c.2.2.2 := map_inv (o := asCall_v e) h
theorem asAttr_inv {e : Expr} {c} (h : asAttr e = some c) : e = .Attribute c.1 c.2.1 c.2.2 := map_inv (o := asAttr_v e) h
theorem asSub_inv {e : Expr} {c} (h : asSub e = some c) : ∃ p, e = .Subscript c.1 c.2 p := map_inv (o := asSub_v e) h
theorem asList_inv {e : Expr} {c} (h : asList e = some c) : ∃ p, e = .List c p := map_inv (o := asList_v e) h
theorem asTup_inv {e : Expr} {c} (h : asTup e = some c) : ∃ k p, e = .Tuple c k p := map_inv (o := asTup_v e) h
theorem asDict_inv {e : Expr} {c} (h : asDict e = some c) : ∃ p, e = .Dict c.1 c.2 p := map_inv (o := asDict_v e) h
theorem asSlice_inv {e : Expr} {c} (h : asSlice e = some c) : ∃ p, e = .Slice c.1 c.2.1 c.2.2 p := map_inv (o := asSlice_v e) h
theorem asComp_inv {e : Expr} {c} (h : asComp e = some c) : ∃ p, e = .ListComp c.1 c.2.1 c.2.2 p := map_inv (o := asComp_v e) h

theorem oany {α : Type} {o : Option α} {f : α → Bool} (h : o.any f = true) : ∃ a, o = some a ∧ f a = true := by
  cases o with
  | none => cases h
  | some a => exact ⟨a, rfl, h⟩

/-- a call of a name, without keywords -/
noncomputable def nameCall (e : Expr) (f : Str → List Expr → Bool) : Bool := (asCall e).any fun c => c.2.2.1.isEmpty && (asName c.1).any fun n => f n c.2.1
theorem nameCall_inv {e : Expr} {f : Str → List Expr → Bool} (h : nameCall e f = true) : ∃ n args p1 p, e = .Call (.Name n p1) args [] p ∧ f n args = true := by
  obtain ⟨⟨g, as, ks, p⟩, h1, h2⟩ := oany h
  obtain rfl := asCall_inv h1
  simp only [Bool.and_eq_true, List.isEmpty_iff] at h2
  obtain ⟨rfl, h3⟩ := h2
  obtain ⟨n, h4, h5⟩ := oany h3
  obtain ⟨p1, rfl⟩ := asName_inv h4
  exact ⟨n, as, p1, p, rfl, h5⟩

noncomputable def chkL (r : X → Scope → Expr → Bool) : List X → Scope → List Expr → Bool
  | [], _, es => es.isEmpty
  | x :: xs, sc, es => match es with | e :: es => r x sc e && chkL r xs sc es | [] => false
noncomputable def chkI (r : X → Scope → Expr → Bool) (it : It) (sc : Scope) (e : Expr) : Bool := match it with
  | .range args => nameCall e fun n as => decide (n = "range") && isG sc n && chkL r args sc as
  | .val x => r x sc e
  | .rev x => nameCall e fun n as => decide (n = "reversed") && isG sc n && chkL r [x] sc as

noncomputable def chkComp (T : Tab) (r : X → Scope → Expr → Bool) (elt : X) (v : Nat) (it : It) (ifs : List X) (sc : Scope) (e : Expr) : Bool := (asComp e).any fun c => match c.2.1 with
  | [g] => decide (g.is_async = 0) && (asName g.target).any fun n => decide (T.vars[v]? = some n) && (decide (c.2.2.names.lookup n = some .local) || decide (c.2.2.names.lookup n = some .cell)) && compScopeOk c.2.2 sc &&
      c.2.2.names.all (fun x => decide ((x.2 = .local ∨ x.2 = .cell) → x.1 = n ∨ x.1 ∉ T.vars)) && notSet g.iter && chkI r it sc g.iter && chkL r ifs c.2.2 g.ifs && r elt c.2.2 c.1
  | _ => false

noncomputable def isNoneX : X → Bool
  | .none => true
  | _ => false
noncomputable def chkO (r : X → Scope → Expr → Bool) (x : X) (sc : Scope) (o : Option Expr) : Bool := match o with
  | none => isNoneX x
  | some e => r x sc e

/-- an expression is what its small form says -/
noncomputable def chkX (T : Tab) (r : X → Scope → Expr → Bool) (x : X) (sc : Scope) (e : Expr) : Bool := match x with
  | .none => decide (asConst e = some .none)
  | .bool b => decide (asConst e = some (.bool b))
  | .int i => decide (asConst e = some (.int i))
  | .str x => decide (asConst e = some (.str x))
  | .var i => (asName e).any fun n => decide (T.vars[i]? = some n) && isV sc n && okName n
  | .glob i => (asName e).any fun n => decide (T.glbs[i]? = some n) && isG sc n && okName n
  | .bin op a b => (asBin e).any fun p => decide (op = p.2.1) && r a sc p.1 && r b sc p.2.2
  | .neg a => (asUn e).any fun p => decide (p.1 = .USub) && r a sc p.2
  | .not a => (asUn e).any fun p => decide (p.1 = .Not) && r a sc p.2
  | .bop op es => (asBool e).any fun p => decide (op = p.1) && chkL r es sc p.2
  | .ite t a b => (asIf e).any fun p => r t sc p.1 && r a sc p.2.1 && r b sc p.2.2
  | .cmp a ops bs => (asCmp e).any fun p => decide (ops = p.2.1) && decide (ops.length = bs.length) && r a sc p.1 && chkL r bs sc p.2.2
  | .call f args => nameCall e fun n as => decide (T.fns[f]? = some (some n)) && isG sc n && okName n && chkL r args sc as
  | .bi b args => nameCall e fun n as => decide (biName b = n) && isG sc n && chkL r args sc as
  | .isi a t => nameCall e fun n as => decide (n = "isinstance") && isG sc n && (match as with
    | [a', c'] => r a sc a' && (asName c').any fun c => decide (tyName T t = some c) && isG sc c && okName c
    | _ => false)
  | .meth m o args => (asCall e).any fun c => c.2.2.1.isEmpty && (asAttr c.1).any fun q => decide (meName m = q.2.1) && notCall q.1 && (q.2.2.endLine == c.2.2.2.line) && decide (c.2.1.length < 9) && r o sc q.1 && chkL r args sc c.2.1
  | .sub o i => (asSub e).any fun p => r o sc p.1 && r i sc p.2
  | .list es => (asList e).any fun p => chkL r es sc p
  | .tup es => (asTup e).any fun p => chkL r es sc p
  | .dict0 => (asDict e).any fun p => p.1.isEmpty && p.2.isEmpty
  | .lrange args => nameCall e fun n as => decide (n = "list") && isG sc n && (match as with
    | [a] => nameCall a fun n' as' => decide (n' = "range") && isG sc n' && chkL r args sc as'
    | _ => false)
  | .slice i lo hi st => (asSub e).any fun p => (asName p.1).any fun n => decide (T.vars[i]? = some n) && isV sc n && okName n && (asSlice p.2).any fun q => chkO r lo sc q.1 && chkO r hi sc q.2.1 && chkO r st sc q.2.2
  | .comp elt v it ifs => chkComp T r elt v it ifs sc e
noncomputable def chk (T : Tab) : Nat → X → Scope → Expr → Bool
  | 0 => fun _ _ _ => false
  | k + 1 => fun x sc e => chkX T (chk T k) x sc e

/-- how deep, and whether no exception is being handled -/
structure Lv where
  d : Nat
  calm : Bool

noncomputable def AOk (fr : List Env) (A : Around) (n : Lv) : Prop := (n.calm = true → A.handled = none) ∧ A.depth + n.d < 900 ∧ A.units + 8 * n.d + 200 < 9000 ∧ A.frames = some fr

/-- an exception on its way, new since `g` -/
noncomputable def ExcAt (W : Wd) (ρ : List Addr) (g : Heap) (e : Value) (c : Nat) (h : Heap) : Prop :=
  ∃ a o vs a0, e = .ref a ∧ a ∉ ρ ∧ g.get? a = none ∧ W.h₀.get? a = none ∧ h.get? a = some o ∧ W.cls c = some o.cls ∧ o.data = .fields vs ∧ vs[0]? = some a0 ∧
    (vs[1]? = some .none ∨ ∃ T oT ts, vs[1]? = some (.ref T) ∧ T ≠ a ∧ T ∉ ρ ∧ g.get? T = none ∧ W.h₀.get? T = none ∧ h.get? T = some oT ∧ oT.data = .fields ts ∧ ts[3]? = some .none)

theorem step_none {own : Addr → Prop} {ρ ρ' : List Addr} {s s' : Shared} (st : Step own ρ s ρ' s') {a : Addr} (h : s'.heap.get? a = none) : s.heap.get? a = none := by
  cases q : s.heap.get? a with
  | none => rfl
  | some o => obtain ⟨o', e⟩ := st.live a o q; rw [h] at e; cases e

theorem ExcAt.back {W : Wd} {own : Addr → Prop} {ρ ρ1 ρ2 : List Addr} {s s1 : Shared} {e : Value} {c : Nat} {h : Heap} (x : ExcAt W ρ2 s1.heap e c h) (st : Step own ρ s ρ1 s1) : ExcAt W ρ2 s.heap e c h := by
  obtain ⟨a, o, vs, a0, h1, h2, h3, h4, h5, h6, h7, h8, h9⟩ := x
  refine ⟨a, o, vs, a0, h1, h2, step_none st h3, h4, h5, h6, h7, h8, h9.imp id ?_⟩
  rintro ⟨T, oT, ts, g1, g2, g3, g4, g5, g6, g7, g8⟩
  exact ⟨T, oT, ts, g1, g2, g3, step_none st g4, g5, g6, g7, g8⟩

noncomputable def Post {α β : Type} (W : Wd) (env : Env) (ρ : List Addr) (σ : Sto) (s : Shared) (rel : List Addr → α → β → Prop) (r : R α) (Q : β → Shared → Prop) (E : Value → Shared → Prop) : Prop := match r with
  | .ok v H' => ∀ v' ρ' s', Step no ρ s ρ' s' → Rel W env ρ' σ H' s' → rel ρ' v v' → Q v' s'
  | .exc c H' => ∀ e ρ' s', Step no ρ s ρ' s' → Rel W env ρ' σ H' s' → ExcAt W ρ' s.heap e c s'.heap → E e s'
  | .stuck => False

theorem Post.bind {α β γ δ : Type} {W : Wd} {env : Env} {ρ : List Addr} {σ : Sto} {s : Shared} {rel : List Addr → α → β → Prop} {rel' : List Addr → γ → δ → Prop} {r : R α} {f : α → H → R γ}
    {Q : δ → Shared → Prop} {E : Value → Shared → Prop} (h : Post W env ρ σ s rel' (r.bind f) Q E) :
    Post W env ρ σ s rel r (fun v' s1 => ∃ v H1 ρ1, Step no ρ s ρ1 s1 ∧ Rel W env ρ1 σ H1 s1 ∧ rel ρ1 v v' ∧ Post W env ρ1 σ s1 rel' (f v H1) Q E) E := by
  cases r with
  | stuck => exact h
  | exc c H' => exact h
  | ok v H1 =>
    intro v' ρ1 s1 st r1 vr
    refine ⟨v, H1, ρ1, st, r1, vr, ?_⟩
    have h' : Post W env ρ σ s rel' (f v H1) Q E := h
    revert h'
    generalize f v H1 = q
    intro h'
    cases q with
    | stuck => exact h'
    | exc c H' => exact fun e ρ' s' st' r' x' => h' e ρ' s' (st.trans st') r' (x'.back st)
    | ok w H' => exact fun w' ρ' s' st' => h' w' ρ' s' (st.trans st')

section
variable (W : Wd) (n : Lv)

/-- a tree of the model does what a small run does -/
noncomputable def Sim {α β : Type} (env : Env) (rel : List Addr → α → β → Prop) (t : Sem β) (f : Sto → H → R α) : Prop :=
  ∀ A ρ σ H s Q E, AOk W.fr A n → Rel W env ρ σ H s → Post W env ρ σ s rel (f σ H) Q E → wpAny (model W.prog W.w) A t Q E s

end


section
variable {W : Wd} {n : Lv} {env : Env} {C : Cx}

theorem post_here {α β : Type} {ρ : List Addr} {σ : Sto} {H : H} {s : Shared} {rel : List Addr → α → β → Prop} {v : α} {v' : β} {Q : β → Shared → Prop} {E : Value → Shared → Prop}
    (hR : Rel W env ρ σ H s) (h : Post W env ρ σ s rel (.ok v H) Q E) (hv : rel ρ v v') (tk : Nat) : Q v' { s with toks := tk } :=
  h v' ρ _ (.toks ρ s tk) hR.toks hv
theorem post_same {α β : Type} {ρ : List Addr} {σ : Sto} {H : H} {s : Shared} {rel : List Addr → α → β → Prop} {v : α} {v' : β} {Q : β → Shared → Prop} {E : Value → Shared → Prop}
    (hR : Rel W env ρ σ H s) (h : Post W env ρ σ s rel (.ok v H) Q E) (hv : rel ρ v v') : Q v' s :=
  h v' ρ _ (.refl ρ s) hR hv

theorem sim_none (k pos) : Sim W n env VR (eval (.Constant .none k pos) env) (ev C .none) :=
  fun A ρ σ H s Q E hA hR hP => Constant_none (post_same hR hP VR.none)
theorem sim_bool (b k pos) : Sim W n env VR (eval (.Constant (.bool b) k pos) env) (ev C (.bool b)) :=
  fun A ρ σ H s Q E hA hR hP => Constant_bool (post_same hR hP (VR.bool b))
theorem sim_int (i k pos) : Sim W n env VR (eval (.Constant (.int i) k pos) env) (ev C (.int i)) :=
  fun A ρ σ H s Q E hA hR hP => wpAny_Constant_int (post_here hR hP (VR.int i _) _)
theorem sim_str (x k pos) : Sim W n env VR (eval (.Constant (.str x) k pos) env) (ev C (.str x)) :=
  fun A ρ σ H s Q E hA hR hP => Calls.Constant_str (post_here hR hP (VR.str x _) _)

theorem sim_bin {a b : X} {l r : Expr} {op : Operator} {pos : Pos} (ha : Sim W n env VR (eval l env) (ev C a)) (hb : Sim W n env VR (eval r env) (ev C b))
    (hop : ∀ A ρ σ H s Q E x y x' y', AOk W.fr A n → Rel W env ρ σ H s → VR ρ x x' → VR ρ y y' → Post W env ρ σ s VR (binV op x y H) Q E → wpAny (model W.prog W.w) A (binaryOp op x' y') Q E s) :
    Sim W n env VR (eval (.BinOp l op r pos) env) (ev C (.bin op a b)) := by
  intro A ρ σ H s Q E hA hR hP
  rw [ev] at hP
  refine wpAny_BinOp (wpAny_mono (ha A ρ σ H s _ _ hA hR hP.bind) ?_ fun _ _ e => e)
  rintro x' s1 ⟨x, H1, ρ1, st1, r1, v1, hP1⟩
  refine wpAny_mono (hb A ρ1 σ H1 s1 _ _ hA r1 hP1.bind) ?_ fun _ _ e => e
  rintro y' s2 ⟨y, H2, ρ2, st2, r2, v2, hP2⟩
  exact hop A ρ2 σ H2 s2 Q E x y x' y' hA r2 (st2.vr v1) v2 hP2
end
end Mine

set_option autoImplicit false
set_option linter.unusedVariables false
namespace Mine
open PySem PyProof.Rows

section
variable {W : Wd} {n : Lv} {env : Env} {C : Cx} {A : Around} {ρ : List Addr} {σ : Sto} {H : H} {s : Shared} {E : Value → Shared → Prop}

theorem truth_sound {v : V} {v' : Value} {b : Bool} {Q : Bool → Shared → Prop} (hv : VR ρ v v') (ht : truthV v = some b) (h : Q b s) : wpAny (model W.prog W.w) A (truthy v') Q E s := by
  cases hv with
  | none => simp [truthV] at ht; subst ht; exact truthy_none h
  | bool c => simp [truthV] at ht; subst ht; exact wpAny_truthy_bool h
  | int i t => simp [truthV] at ht; subst ht; exact truthy_int h
  | str => simp [truthV] at ht
  | ref => simp [truthV] at ht

theorem rd_depth : ∀ {k : Nat} {v : V} {d : PyData}, rd k H v = some d → d.depth ≤ k
  | 0, v, d, h => by simp [rd] at h
  | k + 1, v, d, h => by
    have all : ∀ (vs : List V) (ds : List PyData), mapO (rd k H) vs = some ds → PyData.depthAll ds ≤ k := by
      intro vs
      induction vs with
      | nil => intro ds e; simp [mapO] at e; subst e; simp [PyData.depthAll]
      | cons x xs ih =>
        intro ds e
        simp only [mapO] at e
        split at e
        · rename_i b hb
          split at e
          · rename_i bs hbs
            cases e
            simp only [PyData.depthAll]
            exact Nat.max_le.mpr ⟨rd_depth hb, ih bs hbs⟩
          · cases e
        · cases e
    cases v with
    | none => simp [rd] at h; subst h; simp [PyData.depth]
    | bool b => simp [rd] at h; subst h; simp [PyData.depth]
    | int i => simp [rd] at h; subst h; simp [PyData.depth]
    | str x => simp [rd] at h; subst h; simp [PyData.depth]
    | ref a =>
      simp only [rd] at h
      split at h
      · rename_i vs e
        obtain ⟨ds, h1, rfl⟩ := Option.map_eq_some_iff.mp h
        simp only [PyData.depth]
        exact Nat.succ_le_succ (all vs ds h1)
      · rename_i vs e
        obtain ⟨ds, h1, rfl⟩ := Option.map_eq_some_iff.mp h
        simp only [PyData.depth]
        exact Nat.succ_le_succ (all vs ds h1)
      · cases h

theorem rd_reads (hR : HR W ρ H s.heap) : ∀ {k : Nat} {v : V} {x : Value} {d : PyData}, rd k H v = some d → VR ρ v x → ∃ as, Reads s.heap x d as
  | 0, v, x, d, h, _ => by simp [rd] at h
  | k + 1, v, x, d, h, hv => by
    have all : ∀ (vs : List V) (xs : List Value) (ds : List PyData), mapO (rd k H) vs = some ds → VRs ρ vs xs → ∃ as, ReadsAll s.heap xs ds as := by
      intro vs
      induction vs with
      | nil => intro xs ds e r; simp [mapO] at e; subst e; cases r; exact ⟨_, .nil⟩
      | cons y ys ih =>
        intro xs ds e r
        simp only [mapO] at e
        split at e
        · rename_i b hb
          split at e
          · rename_i bs hbs
            cases e
            cases r with
            | cons r1 r2 =>
              obtain ⟨as, q1⟩ := rd_reads hR hb r1
              obtain ⟨bs', q2⟩ := ih _ bs hbs r2
              exact ⟨_, .cons q1 q2⟩
          · cases e
        · cases e
    cases hv with
    | none => simp [rd] at h; subst h; exact ⟨_, .none⟩
    | bool b => simp [rd] at h; subst h; exact ⟨_, .bool b⟩
    | int i t => simp [rd] at h; subst h; exact ⟨_, .int i t⟩
    | str y t => simp [rd] at h; subst h; exact ⟨_, .str y t⟩
    | ref i a e =>
      simp only [rd] at h
      split at h
      · rename_i vs e1
        obtain ⟨ds, h1, rfl⟩ := Option.map_eq_some_iff.mp h
        obtain ⟨a', ea, items, ⟨m, ho⟩, r⟩ := hR.obj i _ e1
        rw [e] at ea; cases ea
        obtain ⟨as, q⟩ := all vs items.toList ds h1 r
        exact ⟨_, .list ho rfl rfl q⟩
      · rename_i vs e1
        obtain ⟨ds, h1, rfl⟩ := Option.map_eq_some_iff.mp h
        obtain ⟨a', ea, items, m, ho, r⟩ := hR.obj i _ e1
        rw [e] at ea; cases ea
        obtain ⟨as, q⟩ := all vs items.toList ds h1 r
        exact ⟨_, .tuple ho rfl rfl q⟩
      · cases h

theorem eq_sound {a b : V} {a' b' : Value} {t : Bool} {Q : Value → Shared → Prop} (hA : AOk W.fr A n) (hR : Rel W env ρ σ H s) (ha : VR ρ a a') (hb : VR ρ b b') (ht : eqV H a b = some t) (h : Q (.bool t) s) :
    wpAny (model W.prog W.w) A (compareOp .Eq a' b') Q E s := by
  unfold eqV at ht
  split at ht
  · rename_i x y hx hy
    split at ht
    · rename_i hc
      cases ht
      obtain ⟨as, ra⟩ := rd_reads hR.heap hx ha
      obtain ⟨bs, rb⟩ := rd_reads hR.heap hy hb
      obtain ⟨c1, c2⟩ := Bool.and_eq_true_iff.mp hc
      have d1 := rd_depth hx
      have d2 := rd_depth hy
      refine eq_dataH ra rb ?_ ?_ ?_ h
      · simp [SeqAt.shaped, c1]; omega
      · simp [SeqAt.shaped, c2]; omega
      · have := hA.2.2.1; simp only [cLine]; omega
    · cases ht
  · cases ht
theorem ne_sound {a b : V} {a' b' : Value} {t : Bool} {Q : Value → Shared → Prop} (hA : AOk W.fr A n) (hR : Rel W env ρ σ H s) (ha : VR ρ a a') (hb : VR ρ b b') (ht : eqV H a b = some t) (h : Q (.bool (!t)) s) :
    wpAny (model W.prog W.w) A (compareOp .NotEq a' b') Q E s := by
  unfold eqV at ht
  split at ht
  · rename_i x y hx hy
    split at ht
    · rename_i hc
      cases ht
      obtain ⟨as, ra⟩ := rd_reads hR.heap hx ha
      obtain ⟨bs, rb⟩ := rd_reads hR.heap hy hb
      obtain ⟨c1, c2⟩ := Bool.and_eq_true_iff.mp hc
      have d1 := rd_depth hx
      have d2 := rd_depth hy
      refine ne_dataH ra rb ?_ ?_ ?_ h
      · simp [SeqAt.shaped, c1]; omega
      · simp [SeqAt.shaped, c2]; omega
      · have := hA.2.2.1; simp only [cLine]; omega
    · cases ht
  · cases ht
theorem in_sound {a b : V} {a' b' : Value} {t : Bool} {Q : Value → Shared → Prop} (hA : AOk W.fr A n) (hR : Rel W env ρ σ H s) (ha : VR ρ a a') (hb : VR ρ b b') (ht : inV H a b = some t) (h : Q (.bool t) s) :
    wpAny (model W.prog W.w) A (compareOp .In a' b') Q E s := by
  unfold inV at ht
  split at ht
  · rename_i xs d hx hy
    split at ht
    · rename_i hc
      cases ht
      obtain ⟨as, rb⟩ := rd_reads hR.heap hx hb
      obtain ⟨bs, ra⟩ := rd_reads hR.heap hy ha
      obtain ⟨c1, c2⟩ := Bool.and_eq_true_iff.mp hc
      have d2 := rd_depth hy
      refine SeqAt.in_list_reads rb ra c1 c2 ?_ h
      have h1 : min (PyData.depthAll xs) d.depth ≤ d.depth := Nat.min_le_right _ _
      have := hA.2.2.1; simp only [cLine]; omega
    · cases ht
  · cases ht
theorem notIn_sound {a b : V} {a' b' : Value} {t : Bool} {Q : Value → Shared → Prop} (hA : AOk W.fr A n) (hR : Rel W env ρ σ H s) (ha : VR ρ a a') (hb : VR ρ b b') (ht : inV H a b = some t) (h : Q (.bool (!t)) s) :
    wpAny (model W.prog W.w) A (compareOp .NotIn a' b') Q E s := by
  unfold inV at ht
  split at ht
  · rename_i xs d hx hy
    split at ht
    · rename_i hc
      cases ht
      obtain ⟨as, rb⟩ := rd_reads hR.heap hx hb
      obtain ⟨bs, ra⟩ := rd_reads hR.heap hy ha
      obtain ⟨c1, c2⟩ := Bool.and_eq_true_iff.mp hc
      have d2 := rd_depth hy
      refine SeqAt.notIn_list_reads rb ra c1 c2 ?_ h
      have h1 : min (PyData.depthAll xs) d.depth ≤ d.depth := Nat.min_le_right _ _
      have := hA.2.2.1; simp only [cLine]; omega
    · cases ht
  · cases ht

theorem cmp_sound {op : CmpOp} {a b : V} {a' b' : Value} {t : Bool} {Q : Value → Shared → Prop} (hA : AOk W.fr A n) (hR : Rel W env ρ σ H s) (ha : VR ρ a a') (hb : VR ρ b b') (ht : cmpV op a b H = some t) (h : Q (.bool t) s) :
    wpAny (model W.prog W.w) A (compareOp op a' b') Q E s := by
  cases op with
  | Eq => exact eq_sound hA hR ha hb ht h
  | NotEq =>
    obtain ⟨u, hu, rfl⟩ := Option.map_eq_some_iff.mp ht
    exact ne_sound hA hR ha hb hu h
  | In => exact in_sound hA hR ha hb ht h
  | NotIn =>
    obtain ⟨u, hu, rfl⟩ := Option.map_eq_some_iff.mp ht
    exact notIn_sound hA hR ha hb hu h
  | Lt => cases ha <;> cases hb <;> cases ht; exact lt_int h
  | LtE => cases ha <;> cases hb <;> cases ht; exact le_int h
  | Gt => cases ha <;> cases hb <;> cases ht; exact gt_int h
  | GtE => cases ha <;> cases hb <;> cases ht; exact ge_int h
  | Is =>
    cases hb <;> cases ht
    cases ha <;> exact wpAny_is_plain (by rfl) h
  | IsNot =>
    cases hb <;> cases ht
    cases ha <;> exact wpAny_isNot_plain (by rfl) h
end
end Mine

set_option autoImplicit false
set_option linter.unusedVariables false
namespace Mine
open PySem PyProof.Rows

section
variable {W : Wd} {n : Lv} {env : Env} {C : Cx} {A : Around} {ρ : List Addr} {σ : Sto} {H : H} {s : Shared} {E : Value → Shared → Prop}

theorem big_le : big ≤ sizeLine := by simp only [big, sizeLine]; omega

theorem RelH.list {i : Nat} {a : Addr} {vs : List V} (hR : RelH W ρ H s) (hi : ρ[i]? = some a) (e : H[i]? = some (.list vs)) : ∃ items, s.heap.PlainList a items ∧ VRs ρ vs items.toList := by
  obtain ⟨b, hb, r⟩ := hR.heap.obj i _ e
  rw [hi] at hb; cases hb; exact r
theorem RelH.tup {i : Nat} {a : Addr} {vs : List V} (hR : RelH W ρ H s) (hi : ρ[i]? = some a) (e : H[i]? = some (.tuple vs)) : ∃ items n, s.heap.get? a = some { cls := .type "tuple", data := .seq items n } ∧ VRs ρ vs items.toList := by
  obtain ⟨b, hb, r⟩ := hR.heap.obj i _ e
  rw [hi] at hb; cases hb; exact r

/-- a new list -/
theorem newlist_sound {vs : List V} {xs : List Value} {Q : Value → Shared → Prop} (hR : Rel W env ρ σ H s) (hv : VRs ρ vs xs) (hs : vs.length ≤ big) (hP : Post W env ρ σ s VR (alloc (.list vs) H) Q E) :
    wpAny (model W.prog W.w) A (newList xs) Q E s := by
  have hb := big_le
  refine wpAny_newObj_type ?_ (by show xs.toArray.size ≤ sizeLine; rw [List.size_toArray, ← hv.length]; omega)
  refine hP _ _ _ Step.push (Rel.push hR (tk := s.toks) ?_) (.ref _ _ (by rw [← hR.heap.len]; simp))
  exact ⟨xs.toArray, ⟨_, Heap.get?_push_size _ rfl⟩, by simpa using hv.mono⟩
theorem newtuple_sound {vs : List V} {xs : List Value} {Q : Value → Shared → Prop} (hR : Rel W env ρ σ H s) (hv : VRs ρ vs xs) (hs : vs.length ≤ big) (hP : Post W env ρ σ s VR (alloc (.tuple vs) H) Q E) :
    wpAny (model W.prog W.w) A (newTuple xs) Q E s := by
  have hb := big_le
  refine wpAny_newObj_type ?_ (by show xs.toArray.size ≤ sizeLine; rw [List.size_toArray, ← hv.length]; omega)
  refine hP _ _ _ Step.push (Rel.push hR (tk := s.toks) ?_) (.ref _ _ (by rw [← hR.heap.len]; simp))
  exact ⟨xs.toArray, _, Heap.get?_push_size _ rfl, by simpa using hv.mono⟩

theorem small_bits {x : Int} (h : small x = true) : Builtin.Int.intBits x ≤ 64 := by
  simp only [small, Bool.and_eq_true, decide_eq_true_eq] at h
  exact intBits_le_64 (by omega) (by omega)

theorem bin_sound {op : Operator} {x y : V} {x' y' : Value} {Q : Value → Shared → Prop} (hA : AOk W.fr A n) (hR : Rel W env ρ σ H s) (hx : VR ρ x x') (hy : VR ρ y y') (hP : Post W env ρ σ s VR (binV op x y H) Q E) :
    wpAny (model W.prog W.w) A (binaryOp op x' y') Q E s := by
  cases hx with
  | int a t =>
    cases hy with
    | int b u =>
      cases op with
      | Add => exact PyProof.Rows.add_int (post_here hR hP (VR.int _ _) _)
      | Sub => exact PyProof.Rows.sub_int (post_here hR hP (VR.int _ _) _)
      | Mult =>
        change Post W env ρ σ s VR (if small a || small b then .ok (.int (a * b)) H else .stuck) Q E at hP
        split at hP
        · rename_i hm
          refine PyProof.Rows.mul_int (post_here hR hP (VR.int _ _) _) ?_
          rcases Bool.or_eq_true_iff.mp hm with hm | hm
          · exact IntMulOk.of_left (small_bits hm)
          · exact IntMulOk.of_right (small_bits hm)
        · exact hP.elim
      | FloorDiv =>
        change Post W env ρ σ s VR (if 0 < b ∧ b < 1073741824 then .ok (.int (a / b)) H else .stuck) Q E at hP
        split at hP
        · rename_i hm
          have e : a.fdiv b = a / b := Int.fdiv_eq_ediv_of_nonneg a (by omega)
          exact PyProof.Rows.floordiv_int (by omega) (by rw [e]; exact post_here hR hP (VR.int _ _) _) (Or.inl (PyProof.noPylong_small (by omega)))
        · exact hP.elim
      | Mod =>
        change Post W env ρ σ s VR (if 0 < b then .ok (.int (a % b)) H else .stuck) Q E at hP
        split at hP
        · rename_i hm
          have e : a.fmod b = a % b := Int.fmod_eq_emod_of_nonneg a (by omega)
          exact PyProof.Rows.mod_int' (by omega) (by rw [e]; exact post_here hR hP (VR.int _ _) _)
        · exact hP.elim
      | Pow =>
        change Post W env ρ σ s VR (if a = 10 ∧ 2 ≤ b ∧ b ≤ 30 then .ok (.int (10 ^ b.toNat)) H else .stuck) Q E at hP
        split at hP
        · rename_i hm
          obtain ⟨rfl, h2, h3⟩ := hm
          refine AutoIntOps.pow_4 (by omega) (by simp; omega) (by decide) (by decide) ?_ (post_here hR hP (VR.int _ _) _)
          have e : Builtin.Int.intBits 10 = 4 := by decide +kernel
          rw [e]
          intro q
          have q' : (((4 : Nat) : Int) * b) > ((bitsLine : Nat) : Int) := of_decide_eq_true q
          have e2 : ((bitsLine : Nat) : Int) = 134217728 := by decide +kernel
          omega
        · exact hP.elim
      | _ => exact hP.elim
    | _ => exact hP.elim
  | str a t =>
    cases hy with
    | int b u =>
      cases op with
      | Mult =>
        change Post W env ρ σ s VR (if b = 0 then .ok (.str Str.empty) H else if b = 1 then .ok (.str a) H else .stuck) Q E at hP
        split at hP
        · rename_i hb
          subst hb
          exact P.mul_str_none (by decide) (by decide) (post_here hR hP (VR.str _ _) _)
        · split at hP
          · rename_i hb
            subst hb
            exact P.mul_str (by decide) (fun _ q => by simp at q) (fun _ q => by simp at q) (by
              rw [if_neg (by decide), if_pos (by simp)]
              exact show Q (.str a t) s from post_same hR hP (VR.str _ _))
          · exact hP.elim
      | _ => exact hP.elim
    | str b u =>
      cases op with
      | Add =>
        change Post W env ρ σ s VR (if a.length + b.length ≤ big then .ok (.str (if a.length == 0 then b else if b.length == 0 then a else a ++ b)) H else .stuck) Q E at hP
        split at hP
        · rename_i hl
          refine P.add_str ?_
          split
          · rename_i h1; rw [if_pos h1] at hP; exact show Q (.str b u) s from post_same hR hP (VR.str _ _)
          · rename_i h1
            rw [if_neg h1] at hP
            split
            · rename_i h2; rw [if_pos h2] at hP; exact show Q (.str a t) s from post_same hR hP (VR.str _ _)
            · rename_i h2
              rw [if_neg h2] at hP
              exact ⟨by
                have := big_le
                show (a.cps ++ b.cps).size ≤ sizeLine
                rw [Array.size_append]
                have hl' : a.cps.size + b.cps.size ≤ big := hl
                omega, post_here hR hP (VR.str _ _) _⟩
        · exact hP.elim
      | _ => exact hP.elim
    | _ => exact hP.elim
  | ref i a ea =>
    cases hy with
    | ref j b eb =>
      cases op with
      | Add =>
        dsimp only [binV, refOp] at hP
        split at hP
        · rename_i xs e1
          split at hP
          · rename_i ys e2
            split at hP
            rename_i hl
            rotate_left
            · exact hP.elim
            obtain ⟨its, ⟨m, ho⟩, r1⟩ := hR.toRelH.list ea e1
            obtain ⟨its2, ⟨m2, ho2⟩, r2⟩ := hR.toRelH.list eb e2
            have hb := big_le
            have l1 := r1.length
            have l2 := r2.length
            simp only [Array.length_toList] at l1 l2
            refine concat_meets ⟨_, ho, rfl⟩ ⟨_, ho2, rfl⟩ noFill_list_add seq_list_add PySem.F.slot_list_add PySem.F.entry_list_add (PySem.F.args_list_add_2 _ _) (list_addW a b its its2 m m2 none none #[] #[] (by omega)) ⟨ho, ho2, ?_⟩
            refine hP _ _ _ Step.push (Rel.push hR ?_) (.ref _ _ (by rw [← hR.heap.len]; simp))
            exact ⟨its ++ its2, ⟨_, Heap.get?_push_size _ rfl⟩, by simpa using (r1.append r2).mono⟩
          · exact hP.elim
        · exact hP.elim
      | _ => exact hP.elim
    | _ => exact hP.elim
  | _ => cases hy <;> exact hP.elim
end
end Mine

set_option autoImplicit false
set_option linter.unusedVariables false
namespace Mine
open PySem PyProof.Rows PySem.W

noncomputable def otherNames : List (Str × Value) := [("isinstance", .builtin "isinstance"), ("range", .type "range"), ("reversed", .type "reversed"), ("bool", .type "bool"), ("str", .type "str"), ("ValueError", .type "ValueError")]

/-- what the heap holds of an own exception class -/
structure ExcFacts (K : Frag) (mg : Str → Option Value) (h : Heap) (C : Addr) : Prop where
  own : ∃ x, OwnClsQ x C [.type "ValueError", .type "Exception", .type "BaseException", .type "object"] "ValueError.__new__" mg h
  ga : findIn K (.ref C) "__getattribute__" = some (some (.builtin "BaseException.__getattribute__"))
  gr : findIn K (.ref C) "__getattr__" = some none
  fc : findIn K (.ref C) "__class__" = some (some (.builtin "object.__class__"))
  fg : specialIn K (.builtin "object.__class__") "__get__" = some (some (.builtin "getset_descriptor.__get__"))
  ft : takesIn K (.builtin "object.__class__") = some true
  cl : (clsIn K C).isSome = true
  me : mroIn K C (.ref C) = some true
  ob : mroIn K C (.type "object") = some true
  be : mroIn K C (.type "BaseException") = some true
  ty : typeIn K (.ref C) = some (.type "type")
  ve : kitOne K (.ref C) (.type "ValueError") = some true

structure ScOk (env : Env) (sc : Scope) : Prop where
  loc : ∀ n, sc.names.lookup n = some .local → env.kindOf n = some .local
  cel : ∀ n, sc.names.lookup n = some .cell ∨ sc.names.lookup n = some .free → env.kindOf n = some .cell ∨ env.kindOf n = some .free
  glb : ∀ n, sc.names.lookup n = some .globalImplicit → env.kindOf n = some .globalImplicit

noncomputable def PostH (W : Wd) (ρ : List Addr) (s : Shared) (r : R V) (Q : Value → Shared → Prop) (E : Value → Shared → Prop) : Prop := match r with
  | .ok v H' => ∀ v' ρ' s', Step no ρ s ρ' s' → RelH W ρ' H' s' → VR ρ' v v' → Q v' s'
  | .exc c H' => ∀ e ρ' s', Step no ρ s ρ' s' → RelH W ρ' H' s' → ExcAt W ρ' s.heap e c s'.heap → E e s'
  | .stuck => False

/-- a called def does what its small form says -/
noncomputable def CallSim (W : Wd) (n : Lv) (f : Addr) (args : List V) (H : H) (r : R V) : Prop :=
  ∀ A ρ s Q E vals, AOk W.fr A n → RelH W ρ H s → VRs ρ args vals → PostH W ρ s r Q E → wpAny (model W.prog W.w) A (call (.ref f) vals []) Q E s

/-- what holds of the text's own exception classes -/
noncomputable def ExcOk (W : Wd) : Prop := ∃ K : Frag, K.In W.h₀ ∧ ∀ k v, W.cls k = some v → ∃ C, v = .ref C ∧ ExcFacts K W.mg W.h₀ C ∧ ∀ j C', W.cls j = some (.ref C') → kitOne K (.ref C) (.ref C') = some (k == j || j == 0)

noncomputable def tyVal (W : Wd) : Ty → Option Value
  | .int => some (.type "int") | .bool => some (.type "bool") | .list => some (.type "list") | .tuple => some (.type "tuple") | .str => some (.type "str") | .valueError => some (.type "ValueError") | .exc k => W.cls k

structure Base (W : Wd) (n : Lv) (C : Cx) : Prop where
  g : W.h₀.Ns mainGlobals W.mg
  b : W.h₀.Ns builtinsNs W.mb
  nolim : W.h₀.NoLimit
  nd : W.T.vars.Nodup
  calm : C.calm = n.calm
  gl : ∀ i nm v, W.T.glbs[i]? = some nm → C.G i = some v → ∃ x, W.mg nm = some x ∧ VR [] v x
  bi : ∀ b, W.mg (biName b) = none ∧ W.mb (biName b) = some (biVal b)
  blt : ∀ x ∈ otherNames, W.mg x.1 = none ∧ W.mb x.1 = some x.2
  cls : ∀ (k : Nat) nm, clsName W.T k = some nm → ∃ C, W.mg nm = some (.ref C) ∧ W.cls k = some (.ref C)
  exc : ExcOk W
  fn : ∀ (i : Nat) nm, W.T.fns[i]? = some (some nm) → ∃ fa o fd, W.mg nm = some (.ref fa) ∧ W.h₀.get? fa = some o ∧ o.data = .func fd ∧ (∀ args H, CallSim W n fa args H (C.F i args H)) ∧ ∀ args H, CallSim W ⟨n.d, false⟩ fa args H (C.L i args H)

theorem Base.loose {W : Wd} {n : Lv} {C : Cx} (B : Base W n C) : Base W ⟨n.d, false⟩ C.loose :=
  { B with calm := rfl, fn := fun i nm h => let ⟨fa, o, fd, h1, h2, h3, _, h5⟩ := B.fn i nm h; ⟨fa, o, fd, h1, h2, h3, h5, h5⟩ }

section
variable {W : Wd} {n : Lv} {env : Env} {C : Cx}

theorem lookup_var {sc : Scope} {nm : Str} (h : isV sc nm = true) : sc.names.lookup nm = some .local ∨ sc.names.lookup nm = some .cell ∨ sc.names.lookup nm = some .free := by
  unfold isV at h
  split at h <;> simp_all

theorem okName_1 {nm : Str} (h : okName nm = true) : (nm == ("__debug__" : Str)) = false := by
  unfold okName at h; simp at h; simpa using h.1
theorem okName_2 {nm : Str} (h : okName nm = true) : (nm == ("__classdict__" : Str)) = false := by
  unfold okName at h; simp at h; simpa using h.2

theorem load_var {A : Around} {ρ : List Addr} {σ : Sto} {H : H} {s : Shared} {E : Value → Shared → Prop} {Q : Value → Shared → Prop} {i : Nat} {nm : Str} {v : V} {sc : Scope}
    (hsc : ScOk env sc) (hR : Rel W env ρ σ H s) (hi : W.T.vars[i]? = some nm) (hv : isV sc nm = true) (hn : okName nm = true) (hσ : σ i = some v)
    (h : ∀ v', VR ρ v v' → Q v' s) : wpAny (model W.prog W.w) A (loadName env nm) Q E s := by
  have viaCell : (env.kindOf nm = some .cell ∨ env.kindOf nm = some .free) → wpAny (model W.prog W.w) A (loadName env nm) Q E s := fun hk => by
    obtain ⟨c, x, h1, h2, _, _, h5⟩ := hR.env.cell nm hk
    obtain ⟨y, rfl, hy⟩ := h5 i v hσ hi
    rcases hk with hk | hk
    · exact wpAny_loadName_cell hR.env.kind hk h1 h2 (h y hy)
    · exact wpAny_loadName_free hR.env.kind hk h1 h2 (h y hy) (okName_2 hn)
  rcases lookup_var hv with e | e
  · have hk := hsc.loc nm e
    obtain ⟨m, hm, r⟩ := hR.env.ns
    obtain ⟨x, hx, hvx⟩ := r i v nm hσ hi hk
    exact wpAny_loadName_local hR.env.kind hk hm hx (h x hvx)
  · exact viaCell (hsc.cel nm e)

theorem sim_var {i : Nat} {nm : Str} {pos : Pos} {sc : Scope} (hsc : ScOk env sc) (hi : W.T.vars[i]? = some nm) (hv : isV sc nm = true) (hn : okName nm = true) :
    Sim W n env VR (eval (.Name nm pos) env) (ev C (.var i)) := by
  intro A ρ σ H s Q E hA hR hP
  rw [ev] at hP
  cases hσ : σ i with
  | none => rw [hσ] at hP; exact hP.elim
  | some v =>
    rw [hσ] at hP
    exact wpAny_Name (load_var hsc hR hi hv hn hσ fun v' hv' => post_same hR hP hv') (okName_1 hn)

/-- a name of the module's or a built-in one -/
theorem load_glob {A : Around} {ρ : List Addr} {σ : Sto} {H : H} {s : Shared} {E : Value → Shared → Prop} {Q : Value → Shared → Prop} {nm : Str} {x : Value} {pos : Pos} {sc : Scope} (B : Base W n C)
    (hsc : ScOk env sc) (hR : Rel W env ρ σ H s) (hg : isG sc nm = true) (hn : okName nm = true) (hx : W.mg nm = some x ∨ (W.mg nm = none ∧ W.mb nm = some x)) (h : Q x s) :
    wpAny (model W.prog W.w) A (eval (.Name nm pos) env) Q E s := by
  have hk := hsc.glb nm (by simpa [isG] using hg)
  refine Calls.Name_function_global hR.env.kind hk ?_ (okName_1 hn)
  have g' : s.heap.Ns env.globals W.mg := by rw [hR.env.glob]; exact B.g.keeps hR.keep
  have b' : s.heap.Ns env.builtins W.mb := by rw [hR.env.blt]; exact B.b.keeps hR.keep
  rcases hx with hx | ⟨h1, h2⟩
  · exact Calls.loadGlobal_global g' hx h
  · exact Calls.loadGlobal_builtin g' h1 b' h2 h

theorem VR.nil_all {v : V} {x : Value} (h : VR [] v x) (ρ : List Addr) : VR ρ v x := by
  have := h.mono (δ := ρ); simpa using this

theorem sim_glob {i : Nat} {nm : Str} {pos : Pos} {sc : Scope} (B : Base W n C) (hsc : ScOk env sc) (hi : W.T.glbs[i]? = some nm) (hg : isG sc nm = true) (hn : okName nm = true) :
    Sim W n env VR (eval (.Name nm pos) env) (ev C (.glob i)) := by
  intro A ρ σ H s Q E hA hR hP
  rw [ev] at hP
  cases hσ : C.G i with
  | none => rw [hσ] at hP; exact hP.elim
  | some v =>
    rw [hσ] at hP
    obtain ⟨x, hx, hv⟩ := B.gl i nm v hi hσ
    exact load_glob B hsc hR hg hn (.inl hx) (post_same hR hP (hv.nil_all ρ))

theorem sim_neg {a : X} {e : Expr} {pos : Pos} (ha : Sim W n env VR (eval e env) (ev C a)) : Sim W n env VR (eval (.UnaryOp .USub e pos) env) (ev C (.neg a)) := by
  intro A ρ σ H s Q E hA hR hP
  rw [ev] at hP
  refine UnaryOp_ (wpAny_mono (ha A ρ σ H s _ _ hA hR hP.bind) ?_ fun _ _ e => e)
  rintro x' s1 ⟨x, H1, ρ1, st1, r1, v1, hP1⟩
  cases v1 with
  | int i t => exact PyProof.Rows.neg_int (post_here r1 hP1 (VR.int _ _) _)
  | _ => exact hP1.elim

theorem sim_not {a : X} {e : Expr} {pos : Pos} (ha : Sim W n env VR (eval e env) (ev C a)) : Sim W n env VR (eval (.UnaryOp .Not e pos) env) (ev C (.not a)) := by
  intro A ρ σ H s Q E hA hR hP
  rw [ev] at hP
  refine UnaryOp_ (wpAny_mono (ha A ρ σ H s _ _ hA hR hP.bind) ?_ fun _ _ e => e)
  rintro x' s1 ⟨x, H1, ρ1, st1, r1, v1, hP1⟩
  cases ht : truthV x with
  | none => rw [ht] at hP1; exact hP1.elim
  | some t =>
    rw [ht] at hP1
    exact not_of (truth_sound v1 ht (post_same r1 hP1 (VR.bool _)))

/-- the elements of a list of expressions -/
inductive SimAll (W : Wd) (n : Lv) (env : Env) (C : Cx) : List X → List Expr → Prop where
  | nil : SimAll W n env C [] []
  | cons {x : X} {e : Expr} {xs : List X} {es : List Expr} : Sim W n env VR (eval e env) (ev C x) → notStar e = true → notSet e = true → SimAll W n env C xs es → SimAll W n env C (x :: xs) (e :: es)

noncomputable def trees (env : Env) (es : List Expr) : List (Bool × Sem Value) := es.map fun e => (false, eval e env)
theorem starEach_plain {xs : List X} {es : List Expr} (h : SimAll W n env C xs es) : starEach es env = trees env es := by
  induction h with
  | nil => rfl
  | @cons x e xs es _ hs _ _ ih =>
    rw [trees, List.map_cons, ← trees, ← ih]
    cases e <;> first | rfl | (simp [notStar] at hs)
theorem backTo_plain (pos : Pos) (env : Env) (es : List Expr) : backTo pos (trees env es) = trees env es := by
  unfold backTo trees
  rw [List.map_map]
  exact List.map_congr_left fun e _ => by simp
theorem trees_any (env : Env) (es : List Expr) : (trees env es).any (·.1) = false := by
  induction es with
  | nil => rfl
  | cons e es ih => simp [trees] at *

theorem sim_spliced {xs : List X} {es : List Expr} (h : SimAll W n env C xs es) : Sim W n env VRs (spliced (trees env es)) (evL C xs) := by
  induction h with
  | nil =>
    intro A ρ σ H s Q E hA hR hP
    rw [evL] at hP
    exact Calls.spliced_nil (post_same hR hP VRs.nil)
  | cons hx _ _ _ ih =>
    intro A ρ σ H s Q E hA hR hP
    rw [evL] at hP
    refine Calls.spliced_cons (wpAny_mono (hx A ρ σ H s _ _ hA hR hP.bind) ?_ fun _ _ e => e)
    rintro x' s1 ⟨x, H1, ρ1, st1, r1, v1, hP1⟩
    refine wpAny_mono (ih A ρ1 σ H1 s1 _ _ hA r1 hP1.bind) ?_ fun _ _ e => e
    rintro xs' s2 ⟨vs, H2, ρ2, st2, r2, v2, hP2⟩
    exact post_same r2 hP2 (VRs.cons (st2.vr v1) v2)

theorem sim_args {f : Value} {xs : List X} {es : List Expr} (h : SimAll W n env C xs es) :
    Sim W n env (fun ρ vs (a : Args) => VRs ρ vs a.pos ∧ a.kw = []) (evalArgs f true (trees env es) []) (evL C xs) := by
  intro A ρ σ H s Q E hA hR hP
  have hs := sim_spliced h A ρ σ H s (fun vs s' => Q ⟨vs, []⟩ s') E hA hR (by
    revert hP
    generalize evL C xs σ H = r
    intro hP
    cases r with
    | stuck => exact hP
    | exc c H' => exact hP
    | ok vs H' => exact fun v' ρ' s' st r v => hP ⟨v', []⟩ ρ' s' st r ⟨v, rfl⟩)
  cases h with
  | nil => exact PySem.evalArgs_none (post_same hR hP ⟨VRs.nil, rfl⟩)
  | cons => exact Calls.evalArgs_plain hs
end
end Mine

set_option autoImplicit false
set_option linter.unusedVariables false
namespace Mine
open PySem PyProof.Rows

section
variable {W : Wd} {n : Lv} {env : Env} {C : Cx}

theorem sim_bop {op : BoolOp} {xs : List X} {es : List Expr} (h : SimAll W n env C xs es) {pos : Pos} : Sim W n env VR (eval (.BoolOp op es pos) env) (evB C op xs) := by
  induction h with
  | nil => intro A ρ σ H s Q E hA hR hP; rw [evB] at hP; exact hP.elim
  | @cons x e xs es hx _ _ hall ih =>
    intro A ρ σ H s Q E hA hR hP
    cases hall with
    | nil => rw [evB] at hP; exact BoolOp_one (hx A ρ σ H s Q E hA hR hP)
    | @cons x2 e2 xs2 es2 _ _ _ _ =>
      rw [evB] at hP
      have key : wpAny (model W.prog W.w) A (eval e env) (fun v s₁ => wpAny (model W.prog W.w) A (truthy v) (fun c s₂ => if c = (op == .Or) then Q v s₂ else wpAny (model W.prog W.w) A (eval (.BoolOp op (e2 :: es2) pos) env) Q E s₂) E s₁) E s := by
        refine wpAny_mono (hx A ρ σ H s _ _ hA hR hP.bind) ?_ fun _ _ e => e
        rintro v' s1 ⟨v, H1, ρ1, st1, r1, v1, hP1⟩
        cases ht : truthV v with
        | none => rw [ht] at hP1; exact hP1.elim
        | some t =>
          rw [ht] at hP1
          dsimp only at hP1
          refine truth_sound v1 ht ?_
          split
          · rename_i hc; rw [if_pos hc] at hP1; exact post_same r1 hP1 v1
          · rename_i hc; rw [if_neg hc] at hP1; exact ih A ρ1 σ H1 s1 Q E hA r1 hP1
      cases op with
      | And =>
        refine BoolOp_and (wpAny_mono key ?_ fun _ _ e => e)
        intro v s1 h1
        refine wpAny_mono h1 ?_ fun _ _ e => e
        intro c s2 h2
        cases c with
        | true => rw [if_neg (by decide)] at h2; exact h2
        | false => rw [if_pos (by decide)] at h2; exact h2
      | Or =>
        refine BoolOp_or (wpAny_mono key ?_ fun _ _ e => e)
        intro v s1 h1
        refine wpAny_mono h1 ?_ fun _ _ e => e
        intro c s2 h2
        cases c with
        | true => rw [if_pos (by decide)] at h2; exact h2
        | false => rw [if_neg (by decide)] at h2; exact h2

/-- truth of a small run -/
noncomputable def evTr (C : Cx) (x : X) (σ : Sto) (h : H) : R Bool := (ev C x σ h).bind fun v h1 => R.ofOpt (truthV v) h1
noncomputable def BR (_ : List Addr) (a b : Bool) : Prop := a = b
abbrev SimT (W : Wd) (n : Lv) (env : Env) (C : Cx) (x : X) (e : Expr) : Prop := Sim W n env BR (isTrue e env (eval e env)) (evTr C x)

theorem simT_plain {x : X} {e : Expr} (hx : Sim W n env VR (eval e env) (ev C x)) (he : isTrue e env (eval e env) = (do let v ← eval e env; standAt e.pos; holding [v] (truthy v))) : SimT W n env C x e := by
  intro A ρ σ H s Q E hA hR hP
  unfold evTr at hP
  refine isTrue_plain (wpAny_mono (hx A ρ σ H s _ _ hA hR hP.bind) ?_ fun _ _ e => e) he
  rintro v' s1 ⟨v, H1, ρ1, st1, r1, v1, hP1⟩
  cases ht : truthV v with
  | none => rw [ht] at hP1; exact hP1.elim
  | some t =>
    rw [ht] at hP1
    exact truth_sound v1 ht (post_same r1 hP1 rfl)

theorem sim_ite {t a b : X} {et ea eb : Expr} {pos : Pos} (ht : SimT W n env C t et) (ha : Sim W n env VR (eval ea env) (ev C a)) (hb : Sim W n env VR (eval eb env) (ev C b)) :
    Sim W n env VR (eval (.IfExp et ea eb pos) env) (ev C (.ite t a b)) := by
  intro A ρ σ H s Q E hA hR hP
  rw [ev] at hP
  have hP' : Post W env ρ σ s VR ((evTr C t σ H).bind fun c h1 => if c then ev C a σ h1 else ev C b σ h1) Q E := by
    revert hP
    unfold evTr
    cases ev C t σ H with
    | stuck => exact id
    | exc c h => exact id
    | ok v h =>
      simp only [R.bind]
      cases truthV v with
      | none => exact id
      | some c => cases c <;> exact id
  refine IfExp_ (wpAny_mono (ht A ρ σ H s _ _ hA hR hP'.bind) ?_ fun _ _ e => e)
  rintro c' s1 ⟨c, H1, ρ1, st1, r1, rfl, hP1⟩
  cases c with
  | true => exact ha A ρ1 σ H1 s1 Q E hA r1 hP1
  | false => exact hb A ρ1 σ H1 s1 Q E hA r1 hP1

theorem lastMarks_of {xs : List X} {es : List Expr} (h : SimAll W n env C xs es) : ∀ ops, lastMarks ops es = false := by
  induction h with
  | nil => intro ops; cases ops with
    | nil => rfl
    | cons o ops => cases ops <;> rfl
  | @cons x e xs es _ _ hs hall ih =>
    intro ops
    cases ops with
    | nil => rfl
    | cons o ops =>
      cases hall with
      | nil =>
        cases ops with
        | nil => cases e <;> first | rfl | (simp [notSet] at hs)
        | cons o2 ops => show lastMarks (o2 :: ops) [] = false; exact ih _
      | cons =>
        cases ops with
        | nil => exact ih []
        | cons o2 ops => exact ih (o2 :: ops)

theorem evalEach_map (es : List Expr) : evalEach es env = es.map fun e => eval e env := by
  induction es with
  | nil => rfl
  | cons e es ih => rw [evalEach, ih]; rfl

theorem sim_chain {pos : Pos} {xs : List X} {es : List Expr} (h : SimAll W n env C xs es) : ∀ (ops : List CmpOp) A ρ σ H s Q E a a', ops.length = xs.length → AOk W.fr A n → Rel W env ρ σ H s → VR ρ a a' → Post W env ρ σ s VR (evC C a ops xs σ H) Q E →
    wpAny (model W.prog W.w) A (compareChain pos a' ops (es.map fun e => eval e env)) Q E s := by
  induction h with
  | nil =>
    intro ops A ρ σ H s Q E a a' hl hA hR ha hP
    cases ops with
    | nil => rw [evC] at hP; exact hP.elim; all_goals simp
    | cons o ops => simp at hl
  | @cons x e xs es hx _ _ hall ih =>
    intro ops A ρ σ H s Q E a a' hl hA hR ha hP
    cases ops with
    | nil => simp at hl
    | cons o ops =>
      cases hall with
      | nil =>
        cases ops with
        | cons => simp at hl
        | nil =>
          rw [evC] at hP
          refine chain_last (wpAny_mono (hx A ρ σ H s _ _ hA hR hP.bind) ?_ fun _ _ e => e)
          rintro b' s1 ⟨b, H1, ρ1, st1, r1, v1, hP1⟩
          cases ht : cmpV o a b H1 with
          | none => rw [ht] at hP1; exact hP1.elim
          | some t => rw [ht] at hP1; exact cmp_sound hA r1 (st1.vr ha) v1 ht (post_same r1 hP1 (VR.bool t))
      | @cons x2 e2 xs2 es2 _ _ _ _ =>
        cases ops with
        | nil => simp at hl
        | cons o2 ops =>
          rw [evC] at hP
          · refine chain_link (wpAny_mono (hx A ρ σ H s _ _ hA hR hP.bind) ?_ fun _ _ e => e)
            rintro b' s1 ⟨b, H1, ρ1, st1, r1, v1, hP1⟩
            cases ht : cmpV o a b H1 with
            | none => rw [ht] at hP1; exact hP1.elim
            | some t =>
              rw [ht] at hP1
              refine cmp_sound hA r1 (st1.vr ha) v1 ht (wpAny_truthy_bool ?_)
              cases t with
              | true => exact ih (o2 :: ops) A ρ1 σ H1 s1 Q E b b' (by simpa using hl) hA r1 v1 hP1
              | false => exact post_same r1 hP1 (VR.bool false)
          · simp

theorem sim_cmp {pos : Pos} {a : X} {ea : Expr} {ops : List CmpOp} {xs : List X} {es : List Expr} (ha : Sim W n env VR (eval ea env) (ev C a)) (h : SimAll W n env C xs es) (hl : ops.length = xs.length) :
    Sim W n env VR (eval (.Compare ea ops es pos) env) (ev C (.cmp a ops xs)) := by
  intro A ρ σ H s Q E hA hR hP
  rw [ev] at hP
  show wpAny _ A (do compareChain pos (← eval ea env) ops (markedEach ops es (evalEach es env))) Q E s
  rw [markedEach_of_false _ _ _ (lastMarks_of h ops), evalEach_map]
  refine wpAny_bind (wpAny_mono (ha A ρ σ H s _ _ hA hR hP.bind) ?_ fun _ _ e => e)
  rintro a' s1 ⟨v, H1, ρ1, st1, r1, v1, hP1⟩
  exact sim_chain h ops A ρ1 σ H1 s1 Q E v a' hl hA r1 v1 hP1

/-- the same, for its truth -/
theorem simT_chain {pos : Pos} {xs : List X} {es : List Expr} (h : SimAll W n env C xs es) : ∀ (ops : List CmpOp) A ρ σ H s (Q : Bool → Shared → Prop) E a a', ops.length = xs.length → AOk W.fr A n → Rel W env ρ σ H s → VR ρ a a' →
    Post W env ρ σ s BR ((evC C a ops xs σ H).bind fun v h1 => R.ofOpt (truthV v) h1) Q E →
    wpAny (model W.prog W.w) A (testChain pos a' ops (es.map fun e => eval e env)) Q E s := by
  induction h with
  | nil =>
    intro ops A ρ σ H s Q E a a' hl hA hR ha hP
    cases ops with
    | nil => rw [evC] at hP; exact hP.elim; all_goals simp
    | cons o ops => simp at hl
  | @cons x e xs es hx _ _ hall ih =>
    intro ops A ρ σ H s Q E a a' hl hA hR ha hP
    cases ops with
    | nil => simp at hl
    | cons o ops =>
      have bb : ∀ {α β γ : Type} (r : R α) (f : α → Mine.H → R β) (g : β → Mine.H → R γ), (r.bind f).bind g = r.bind fun x h => (f x h).bind g := by
        intro α β γ r f g; cases r <;> rfl
      cases hall with
      | nil =>
        cases ops with
        | cons => simp at hl
        | nil =>
          rw [evC, bb] at hP
          refine test_last (wpAny_mono (hx A ρ σ H s _ _ hA hR hP.bind) ?_ fun _ _ e => e)
          rintro b' s1 ⟨b, H1, ρ1, st1, r1, v1, hP1⟩
          cases ht : cmpV o a b H1 with
          | none => rw [ht] at hP1; exact hP1.elim
          | some t => rw [ht] at hP1; exact cmp_sound hA r1 (st1.vr ha) v1 ht (wpAny_truthy_bool (post_same r1 hP1 rfl))
      | @cons x2 e2 xs2 es2 _ _ _ _ =>
        cases ops with
        | nil => simp at hl
        | cons o2 ops =>
          rw [evC, bb] at hP
          · refine test_link (wpAny_mono (hx A ρ σ H s _ _ hA hR hP.bind) ?_ fun _ _ e => e)
            rintro b' s1 ⟨b, H1, ρ1, st1, r1, v1, hP1⟩
            cases ht : cmpV o a b H1 with
            | none => rw [ht] at hP1; exact hP1.elim
            | some t =>
              rw [ht] at hP1
              refine cmp_sound hA r1 (st1.vr ha) v1 ht (wpAny_truthy_bool ?_)
              cases t with
              | true => exact ih (o2 :: ops) A ρ1 σ H1 s1 Q E b b' (by simpa using hl) hA r1 v1 hP1
              | false => exact post_same r1 hP1 rfl
          · simp

theorem simT_cmp {pos : Pos} {a : X} {ea : Expr} {ops : List CmpOp} {xs : List X} {es : List Expr} (ha : Sim W n env VR (eval ea env) (ev C a)) (h : SimAll W n env C xs es) (hl : ops.length = xs.length) :
    SimT W n env C (.cmp a ops xs) (.Compare ea ops es pos) := by
  intro A ρ σ H s Q E hA hR hP
  have bb : ∀ {α β γ : Type} (r : R α) (f : α → Mine.H → R β) (g : β → Mine.H → R γ), (r.bind f).bind g = r.bind fun x h => (f x h).bind g := by
    intro α β γ r f g; cases r <;> rfl
  rw [evTr, ev, bb] at hP
  show wpAny _ A (do testChain pos (← eval ea env) ops (markedEach ops es (evalEach es env))) Q E s
  rw [markedEach_of_false _ _ _ (lastMarks_of h ops), evalEach_map]
  refine wpAny_bind (wpAny_mono (ha A ρ σ H s _ _ hA hR hP.bind) ?_ fun _ _ e => e)
  rintro a' s1 ⟨v, H1, ρ1, st1, r1, v1, hP1⟩
  exact simT_chain h ops A ρ1 σ H1 s1 Q E v a' hl hA r1 v1 hP1

theorem simT_not {a : X} {e : Expr} {pos : Pos} (ha : SimT W n env C a e) : SimT W n env C (.not a) (.UnaryOp .Not e pos) := by
  intro A ρ σ H s Q E hA hR hP
  refine isTrue_not (ha A ρ σ H s _ _ hA hR ?_)
  revert hP
  unfold evTr
  rw [ev]
  cases ev C a σ H with
  | stuck => exact id
  | exc c h => exact id
  | ok v h =>
    simp only [R.bind]
    cases truthV v with
    | none => exact id
    | some t => intro hP v' ρ' s' st r e; exact hP (!v') ρ' s' st r (by rw [← e]; rfl)

inductive SimTAll (W : Wd) (n : Lv) (env : Env) (C : Cx) : List X → List Expr → Prop where
  | nil : SimTAll W n env C [] []
  | cons {x : X} {e : Expr} {xs : List X} {es : List Expr} : SimT W n env C x e → SimTAll W n env C xs es → SimTAll W n env C (x :: xs) (e :: es)

theorem simT_bop {op : BoolOp} {pos : Pos} {xs : List X} {es : List Expr} (h : SimTAll W n env C xs es) : ∀ A ρ σ H s (Q : Bool → Shared → Prop) E whole, AOk W.fr A n → Rel W env ρ σ H s → xs ≠ [] →
    Post W env ρ σ s BR ((evB C op xs σ H).bind fun v h1 => R.ofOpt (truthV v) h1) Q E → wpAny (model W.prog W.w) A (isTrue (.BoolOp op es pos) env whole) Q E s := by
  induction h with
  | nil => intro A ρ σ H s Q E whole hA hR hne; exact absurd rfl hne
  | @cons x e xs es hx hall ih =>
    intro A ρ σ H s Q E whole hA hR _ hP
    have key : wpAny (model W.prog W.w) A (isTrue e env (eval e env)) (fun c s' => if c = (op == .Or) then Q c s' else wpAny (model W.prog W.w) A (isTrue (.BoolOp op es pos) env whole) Q E s') E s := by
      refine hx A ρ σ H s _ _ hA hR ?_
      cases hall with
      | nil =>
        rw [evB] at hP
        revert hP
        unfold evTr
        generalize (ev C x σ H).bind (fun v h1 => R.ofOpt (truthV v) h1) = r
        cases r with
        | stuck => exact id
        | exc c h => exact id
        | ok t h =>
          intro hP v' ρ' s' st r e
          have hq := hP v' ρ' s' st r e
          split
          · exact hq
          · rename_i hc
            cases op with
            | And =>
              have : v' = true := by revert hc; cases v' <;> decide
              subst this
              exact isTrue_and_nil hq
            | Or =>
              have : v' = false := by revert hc; cases v' <;> decide
              subst this
              exact isTrue_or_nil hq
      | @cons x2 e2 xs2 es2 _ _ =>
        rw [evB] at hP
        revert hP
        unfold evTr
        cases ev C x σ H with
        | stuck => exact id
        | exc c h => exact id
        | ok v h =>
          simp only [R.bind]
          cases ht : truthV v with
          | none => exact id
          | some t =>
            intro hP v' ρ' s' st r e
            have e' : t = v' := e
            subst e'
            split
            · rename_i hc
              simp only [if_pos hc] at hP
              simp only [ht] at hP
              exact hP t ρ' s' st r rfl
            · rename_i hc
              simp only [if_neg hc] at hP
              refine ih A ρ' σ h s' Q E whole hA r (by simp) ?_
              revert hP
              show Post W env ρ σ s BR ((evB C op (x2 :: xs2) σ h).bind fun v h1 => R.ofOpt (truthV v) h1) Q E → _
              generalize (evB C op (x2 :: xs2) σ h).bind (fun v h1 => R.ofOpt (truthV v) h1) = q
              cases q with
              | stuck => exact id
              | exc c h => exact fun hP e ρ2 s2 st2 r2 x2 => hP e ρ2 s2 (st.trans st2) r2 (x2.back st)
              | ok c h => exact fun hP e ρ2 s2 st2 => hP e ρ2 s2 (st.trans st2)
    cases op with
    | And =>
      refine isTrue_and (wpAny_mono key ?_ fun _ _ e => e)
      intro c s2 h2
      cases c with
      | true => rw [if_neg (by decide)] at h2; exact h2
      | false => rw [if_pos (by decide)] at h2; exact h2
    | Or =>
      refine isTrue_or (wpAny_mono key ?_ fun _ _ e => e)
      intro c s2 h2
      cases c with
      | true => rw [if_pos (by decide)] at h2; exact h2
      | false => rw [if_neg (by decide)] at h2; exact h2

theorem simT_ite {t a b : X} {et ea eb : Expr} {pos : Pos} (ht : SimT W n env C t et) (ha : SimT W n env C a ea) (hb : SimT W n env C b eb) : SimT W n env C (.ite t a b) (.IfExp et ea eb pos) := by
  intro A ρ σ H s Q E hA hR hP
  have hP' : Post W env ρ σ s BR ((evTr C t σ H).bind fun c h1 => if c then evTr C a σ h1 else evTr C b σ h1) Q E := by
    revert hP
    unfold evTr
    rw [ev]
    cases ev C t σ H with
    | stuck => exact id
    | exc c h => exact id
    | ok v h =>
      simp only [R.bind]
      cases truthV v with
      | none => exact id
      | some c => cases c <;> exact id
  refine isTrue_IfExp (wpAny_mono (ht A ρ σ H s _ _ hA hR hP'.bind) ?_ fun _ _ e => e)
  rintro c' s1 ⟨c, H1, ρ1, st1, r1, rfl, hP1⟩
  cases c with
  | true => exact ha A ρ1 σ H1 s1 Q E hA r1 hP1
  | false => exact hb A ρ1 σ H1 s1 Q E hA r1 hP1
end
end Mine

set_option autoImplicit false
set_option linter.unusedVariables false
namespace Mine
open PySem PyProof.Rows

section
variable {W : Wd} {n : Lv} {env : Env} {C : Cx}

theorem sim_list {xs : List X} {es : List Expr} (h : SimAll W n env C xs es) {pos : Pos} : Sim W n env VR (eval (.List es pos) env) (ev C (.list xs)) := by
  intro A ρ σ H s Q E hA hR hP
  rw [ev] at hP
  refine List_ ?_
  rw [starEach_plain h, backTo_plain]
  refine wpAny_mono (sim_spliced h A ρ σ H s _ _ hA hR hP.bind) ?_ fun _ _ e => e
  rintro vs' s1 ⟨vs, H1, ρ1, st1, r1, v1, hP1⟩
  split at hP1
  · rename_i hb; exact newlist_sound r1 v1 hb hP1
  · exact hP1.elim
theorem sim_tup {xs : List X} {es : List Expr} (h : SimAll W n env C xs es) {k : Nat} {pos : Pos} : Sim W n env VR (eval (.Tuple es k pos) env) (ev C (.tup xs)) := by
  intro A ρ σ H s Q E hA hR hP
  rw [ev] at hP
  refine Tuple_ ?_
  rw [starEach_plain h, backTo_plain]
  refine wpAny_mono (sim_spliced h A ρ σ H s _ _ hA hR hP.bind) ?_ fun _ _ e => e
  rintro vs' s1 ⟨vs, H1, ρ1, st1, r1, v1, hP1⟩
  split at hP1
  · rename_i hb; exact newtuple_sound r1 v1 hb hP1
  · exact hP1.elim

theorem sim_dict0 {pos : Pos} : Sim W n env VR (eval (.Dict [] [] pos) env) (ev C .dict0) := by
  intro A ρ σ H s Q E hA hR hP
  rw [ev] at hP
  refine wpAny_Dict_empty ?_
  refine hP _ _ _ Step.push (Rel.push hR (tk := s.toks) ?_) (.ref _ _ (by rw [← hR.heap.len]; simp))
  exact ⟨rfl, _, _, Heap.get?_push_size _ rfl, rfl, rfl⟩

theorem idx_spec {k : Int} {m j : Nat} (h : idx k m = some j) : 0 ≤ k ∧ k < m ∧ m ≤ big ∧ j = k.toNat := by
  unfold idx at h
  split at h
  · rename_i hc; cases h; exact ⟨hc.1, hc.2.1, hc.2.2, rfl⟩
  · cases h

/-- what a sequence of the small heap is -/
theorem seqAt_real {ρ : List Addr} {H : H} {s : Shared} {a : V} {a' : Value} {vs : List V} (hR : RelH W ρ H s) (ha : VR ρ a a') (e : seqAt H a = some vs) :
    ∃ ad items, a' = .ref ad ∧ VRs ρ vs items.toList ∧ (s.heap.IsList ad items ∨ IsTup s.heap ad items) := by
  unfold seqAt at e
  split at e
  · rename_i i
    cases ha with
    | ref _ ad hi =>
      split at e
      · rename_i ws e1
        cases e
        obtain ⟨b, hb, items, hl, r⟩ := hR.heap.obj i _ e1
        rw [hi] at hb; cases hb
        exact ⟨ad, items, rfl, r, .inl hl.isList⟩
      · rename_i ws e1
        cases e
        obtain ⟨b, hb, items, m, hl, r⟩ := hR.heap.obj i _ e1
        rw [hi] at hb; cases hb
        exact ⟨ad, items, rfl, r, .inr ⟨_, hl, rfl, m, rfl⟩⟩
      · rename_i ws e1
        cases e
        obtain ⟨b, hb, items, hl, r⟩ := hR.heap.obj i _ e1
        rw [hi] at hb; cases hb
        exact ⟨ad, items, rfl, r, .inl hl⟩
      · cases e
  · cases e

theorem item_sound {A : Around} {ρ : List Addr} {σ : Sto} {H : H} {s : Shared} {E : Value → Shared → Prop} {Q : Value → Shared → Prop} {a b v : V} {a' b' : Value} (hR : Rel W env ρ σ H s) (ha : VR ρ a a') (hb : VR ρ b b')
    (he : itemV a b H = some v) (h : ∀ v', VR ρ v v' → Q v' s) :
    wpAny (model W.prog W.w) A (getItem a' b') Q E s ∧ ∃ T id, s.TypeIs a' T ∧ typeLookup (.type T) "__getitem__" = pure (some (.builtin id)) := by
  unfold itemV at he
  split at he
  · rename_i k
    split at he
    · rename_i vs hvs
      split at he
      · rename_i j hj
        cases hb with
        | int _ t =>
          obtain ⟨ad, items, rfl, r, hl⟩ := seqAt_real hR.toRelH ha hvs
          obtain ⟨h0, h1, h2, rfl⟩ := idx_spec hj
          obtain ⟨x, hx, hv⟩ := r.at he
          have hx' : items[k.toNat]? = some x := by rw [← Array.getElem?_toList]; exact hx
          have hlen := r.length
          simp only [Array.length_toList] at hlen
          have hbig : k < 2 ^ 63 := by simp only [big] at h2; omega
          rcases hl with hl | hl
          · exact ⟨wpAny_getItem_list hl h0 hbig hx' (h x hv), "list", _, hl.typeIs, slot_list_getitem.lookup⟩
          · refine ⟨getItem_tuple hl (by omega) hbig (j := k.toNat) ?_ hx' (h x hv), "tuple", _, hl.typeIs, slot_tuple_getitem.lookup⟩
            exact seqIndex_of h0 (by omega)
      · cases he
    · cases he
  · cases he

theorem sim_sub {o i : X} {eo ei : Expr} {pos : Pos} (ho : Sim W n env VR (eval eo env) (ev C o)) (hi : Sim W n env VR (eval ei env) (ev C i)) (hs : ∀ l u st p, ei ≠ .Slice l u st p) :
    Sim W n env VR (eval (.Subscript eo ei pos) env) (ev C (.sub o i)) := by
  intro A ρ σ H s Q E hA hR hP
  rw [ev] at hP
  rw [eval_Subscript]
  refine wpAny_bind (wpAny_mono (ho A ρ σ H s _ _ hA hR hP.bind) ?_ fun _ _ e => e)
  rintro a' s1 ⟨a, H1, ρ1, st1, r1, v1, hP1⟩
  refine wpAny_bind (wpAny_holding (wpAny_mono (hi A ρ1 σ H1 s1 _ _ hA r1 hP1.bind) ?_ fun _ _ e => e))
  rintro b' s2 ⟨b, H2, ρ2, st2, r2, v2, hP2⟩
  cases he : itemV a b H2 with
  | none => rw [he] at hP2; exact hP2.elim
  | some v =>
    rw [he] at hP2
    obtain ⟨hg, T, id, hT, hl⟩ := item_sound (A := A) (E := E) (Q := fun r s3 => wpAny (model W.prog W.w) A (letTemporaryGo eo a' r >>= fun _ => pure r) Q E s3) r2 (st2.vr v1) v2 he
      fun v' hv' => wpAny_bind (wpAny_letTemporaryGo (wpAny_pure (post_same r2 hP2 hv')))
    refine wpAny_bind (wpAny_standAt ?_)
    refine wpAny_bind ?_
    rw [getitemInPython_of_ne hT.not_modules]
    refine wpAny_bind (wpAny_specialOf hT hl ?_)
    have hsub : subscripted ei false a' b' = operate [a', b'] (getItem a' b') := by
      unfold subscripted
      split
      · exact absurd rfl (hs _ _ _ _)
      · rename_i hf; cases hf
      · rfl
    refine wpAny_pure (wpAny_bind ?_)
    rw [hsub]
    exact wpAny_operating hg

theorem len_sound {A : Around} {ρ : List Addr} {σ : Sto} {H : H} {s : Shared} {E : Value → Shared → Prop} {Q : Value → Shared → Prop} {a : V} {a' : Value} {vs : List V} (hR : Rel W env ρ σ H s) (ha : VR ρ a a')
    (he : seqAt H a = some vs) (hb : vs.length ≤ big) (hP : Post W env ρ σ s VR (.ok (.int vs.length) H) Q E) : wpAny (model W.prog W.w) A (call (.builtin "len") [a']) Q E s := by
  obtain ⟨ad, items, rfl, r, hl⟩ := seqAt_real hR.toRelH ha he
  have hlen := r.length
  simp only [Array.length_toList] at hlen
  have hf : (items.size : Int) < 2 ^ 63 := by simp only [big] at hb; omega
  rcases hl with hl | hl
  · exact PyProof.Rows.len_list hl hf (by rw [← hlen]; exact post_here hR hP (VR.int _ _) _)
  · exact PyProof.Rows.len_tuple hl hf (by rw [← hlen]; exact post_here hR hP (VR.int _ _) _)

theorem listAt_real {ρ : List Addr} {H : H} {s : Shared} {a : V} {a' : Value} {vs : List V} (hR : RelH W ρ H s) (ha : VR ρ a a') (e : listAt H a = some vs) :
    ∃ i ad items, a = .ref i ∧ a' = .ref ad ∧ ρ[i]? = some ad ∧ H[i]? = some (.list vs) ∧ VRs ρ vs items.toList ∧ s.heap.PlainList ad items := by
  unfold listAt at e
  split at e
  · rename_i i
    cases ha with
    | ref _ ad hi =>
      split at e
      · rename_i ws e1
        cases e
        obtain ⟨b, hb, items, hl, r⟩ := hR.heap.obj i _ e1
        rw [hi] at hb; cases hb
        exact ⟨i, ad, items, rfl, rfl, hi, e1, r, hl⟩
      · cases e
  · cases e

theorem allB_spec : ∀ {ρ : List Addr} {vs : List V} {xs : List Value} {t : Bool}, VRs ρ vs xs → allB vs = some t → ∃ bs : List Bool, xs = bs.map Value.bool ∧ t = bs.all id
  | ρ, [], _, t, h, e => by cases h; simp [allB] at e; subst e; exact ⟨[], rfl, rfl⟩
  | ρ, v :: vs, _, t, h, e => by
    cases h with
    | cons h1 h2 =>
      cases h1 with
      | bool b =>
        simp only [allB] at e
        split at e
        · rename_i t' ht
          cases e
          obtain ⟨bs, rfl, rfl⟩ := allB_spec h2 ht
          exact ⟨b :: bs, rfl, by simp⟩
        · cases e
      | _ => simp [allB] at e

theorem range_all (bs : List Bool) : ((List.range bs.length).all fun j => bs.getD j false) = bs.all id := by
  induction bs with
  | nil => rfl
  | cons b bs ih =>
    rw [List.length_cons, List.range_succ_eq_map, List.all_cons, List.all_map, List.all_cons, ← ih]
    rfl

theorem all_sound {A : Around} {ρ : List Addr} {σ : Sto} {H : H} {s : Shared} {E : Value → Shared → Prop} {Q : Value → Shared → Prop} {a : V} {a' : Value} {vs : List V} {t : Bool} (hA : A.handled = none) (hR : Rel W env ρ σ H s) (ha : VR ρ a a')
    (he : listAt H a = some vs) (ht : allB vs = some t) (hP : Post W env ρ σ s VR (.ok (.bool t) H) Q E) : wpAny (model W.prog W.w) A (call (.builtin "all") [a']) Q E s := by
  obtain ⟨i, ad, items, rfl, rfl, hi, e1, r, hl⟩ := listAt_real hR.toRelH ha he
  obtain ⟨bs, hx, rfl⟩ := allB_spec r ht
  refine call_all_walk (wpAny_pyIter_list hl.isList ?_)
  have hne : ad ≠ s.heap.objs.size := Nat.ne_of_lt (let ⟨m, e⟩ := hl; Heap.lt_size e)
  refine ⟨s.heap.objs.size, _, _, _, _, _, fun j => bs.getD j false, rfl, Walks.list (by exact hA) s.heap.objs.size ad hne items, ?_, ?_, ?_⟩
  · exact ⟨⟨_, Heap.get?_push_size _ rfl, rfl, rfl⟩, hl.isList.push _⟩
  · intro j v s' Q' E' hv hq
    have hv' : items.toList[j]? = some v := by rw [Array.getElem?_toList]; exact hv
    rw [hx, List.getElem?_map] at hv'
    obtain ⟨b, hb, rfl⟩ := Option.map_eq_some_iff.mp hv'
    have : bs.getD j false = b := by rw [List.getD_eq_getElem?_getD, hb]; rfl
    (have hq : Q' (bs.getD j false) s' := hq); rw [this] at hq
    exact wpAny_truthy_bool hq
  · intro h' tk hk
    have hall : ((List.range items.size).all fun j => bs.getD j false) = bs.all id := by
      have hlen : items.size = bs.length := by rw [← Array.length_toList, hx]; simp
      rw [hlen]
      exact range_all bs
    rw [hall]
    have keep : ∀ b o, s.heap.get? b = some o → h'.get? b = some o := fun b o e => hk b o (by simp; exact Nat.ne_of_lt (Heap.lt_size e)) (Heap.get?_push_of_some _ e)
    exact hP _ _ _ (Step.grow keep) (hR.grow keep) (VR.bool _)

theorem listcopy_sound {A : Around} {ρ : List Addr} {σ : Sto} {H : H} {s : Shared} {E : Value → Shared → Prop} {Q : Value → Shared → Prop} {a : V} {a' : Value} {vs : List V} (hR : Rel W env ρ σ H s) (ha : VR ρ a a')
    (he : listAt H a = some vs) (hb : vs.length ≤ big) (hP : Post W env ρ σ s VR (alloc (.list vs) H) Q E) : wpAny (model W.prog W.w) A (call (.type "list") [a']) Q E s := by
  obtain ⟨i, ad, items, rfl, rfl, hi, e1, r, m, hl⟩ := listAt_real hR.toRelH ha he
  have hlen := r.length
  simp only [Array.length_toList] at hlen
  have hbl := big_le
  refine call_list_seq ad (.inl rfl) hl rfl rfl (fun h' c' hk hS => ?_) (by omega)
  have f := hR.fresh (Heap.get?_none_of_le (Nat.le_refl s.heap.objs.size))
  refine hP _ (ρ ++ [s.heap.objs.size]) _ ⟨⟨_, rfl, by simpa using Heap.get?_none_of_le (Nat.le_refl _)⟩, fun b o e _ _ => ⟨o, hk b o e, .refl o⟩, fun b o e => ⟨o, hk b o e⟩⟩ ?_ (.ref _ _ (by rw [← hR.heap.len]; simp))
  exact (hR.grow (tk := s.toks) hk).adopt ⟨items, ⟨c', hS⟩, r.mono⟩ f.1 f.2.1 f.2.2.1 f.2.2.2.1 f.2.2.2.2

theorem tuplecopy_sound {A : Around} {ρ : List Addr} {σ : Sto} {H : H} {s : Shared} {E : Value → Shared → Prop} {Q : Value → Shared → Prop} {a : V} {a' : Value} {vs : List V} (hR : Rel W env ρ σ H s) (ha : VR ρ a a')
    (he : listAt H a = some vs) (hb : vs.length ≤ big) (hP : Post W env ρ σ s VR (alloc (.tuple vs) H) Q E) : wpAny (model W.prog W.w) A (call (.type "tuple") [a']) Q E s := by
  obtain ⟨i, ad, items, rfl, rfl, hi, e1, r, m, hl⟩ := listAt_real hR.toRelH ha he
  have hlen := r.length
  simp only [Array.length_toList] at hlen
  have hbl := big_le
  refine call_tuple_list ⟨_, hl, rfl, m, rfl⟩ (fun h' hk => ?_) (by omega)
  refine hP _ _ _ ((Step.grow (s := s) (s' := { s with heap := h' }) hk).trans Step.push) (Rel.push (hR.grow (tk := s.toks) hk) (tk := s.toks) ?_) (.ref _ _ (by rw [← hR.heap.len]; simp))
  exact ⟨items, _, Heap.get?_push_size _ rfl, r.mono⟩

theorem bi1_sound {A : Around} {ρ : List Addr} {σ : Sto} {H : H} {s : Shared} {E : Value → Shared → Prop} {Q : Value → Shared → Prop} {b : Bi} {a : V} {x : Value} (hA : easy b = true ∨ A.handled = none) (hR : Rel W env ρ σ H s) (h1 : VR ρ a x)
    (hP : Post W env ρ σ s VR (bi1 b a H) Q E) : wpAny (model W.prog W.w) A (call (biVal b) [x] []) Q E s := by
  cases b with
  | len =>
    dsimp only [bi1] at hP
    split at hP
    · rename_i ws hws
      split at hP
      · rename_i hb; exact len_sound hR h1 hws hb hP
      · exact hP.elim
    · exact hP.elim
  | all =>
    dsimp only [bi1] at hP
    split at hP
    · rename_i ws hws
      split at hP
      · rename_i t ht; exact all_sound (hA.resolve_left (by decide)) hR h1 hws ht hP
      · exact hP.elim
    · exact hP.elim
  | list =>
    dsimp only [bi1] at hP
    split at hP
    · rename_i ws hws
      split at hP
      · rename_i hb; exact listcopy_sound hR h1 hws hb hP
      · exact hP.elim
    · exact hP.elim
  | int =>
    cases h1 with
    | bool t => exact call_int_bool (post_here hR hP (VR.int _ _) _)
    | int i t => exact call_int_int (post_same hR hP (VR.int _ _))
    | _ => exact False.elim hP
  | tuple =>
    dsimp only [bi1] at hP
    split at hP
    · rename_i ws hws
      split at hP
      · rename_i hb; exact tuplecopy_sound hR h1 hws hb hP
      · exact hP.elim
    · exact hP.elim
  | _ => exact False.elim hP
theorem bi2_sound {A : Around} {ρ : List Addr} {σ : Sto} {H : H} {s : Shared} {E : Value → Shared → Prop} {Q : Value → Shared → Prop} {b : Bi} {a c : V} {x y : Value} (hA : easy b = true ∨ A.handled = none) (hR : Rel W env ρ σ H s) (h1 : VR ρ a x) (h2 : VR ρ c y)
    (hP : Post W env ρ σ s VR (bi2 b a c H) Q E) : wpAny (model W.prog W.w) A (call (biVal b) [x, y] []) Q E s := by
  cases b with
  | max =>
    dsimp only [bi2] at hP
    split at hP
    · cases h1; cases h2
      refine max_two_ints (hA.resolve_left (by decide)) fun h' tk hk => ?_
      refine hP _ _ _ (Step.grow hk) (hR.grow (tk := tk) hk) ?_
      split <;> exact VR.int _ _
    · exact hP.elim
  | min =>
    dsimp only [bi2] at hP
    split at hP
    · cases h1; cases h2
      refine min_two_ints (hA.resolve_left (by decide)) fun h' tk hk => ?_
      refine hP _ _ _ (Step.grow hk) (hR.grow (tk := tk) hk) ?_
      split <;> exact VR.int _ _
    · exact hP.elim
  | _ => exact False.elim hP
theorem bi_sound {A : Around} {ρ : List Addr} {σ : Sto} {H : H} {s : Shared} {E : Value → Shared → Prop} {Q : Value → Shared → Prop} {b : Bi} {vs : List V} {xs : List Value} (hA : easy b = true ∨ A.handled = none) (hR : Rel W env ρ σ H s) (hv : VRs ρ vs xs)
    (hP : Post W env ρ σ s VR (biV b vs H) Q E) : wpAny (model W.prog W.w) A (call (biVal b) xs []) Q E s := by
  cases hv with
  | nil => exact hP.elim
  | cons h1 h2 => cases h2 with
    | nil => exact bi1_sound hA hR h1 hP
    | cons h2 h3 => cases h3 with
      | nil => exact bi2_sound hA hR h1 h2 hP
      | cons h3 h4 => exact hP.elim
end
end Mine

set_option autoImplicit false
set_option linter.unusedVariables false
namespace Mine
open PySem PyProof.Rows PySem.W

/-! an exception object asked for its class -/
section
variable {prog : Program} {w : World} {A : Around} {E : Value → Shared → Prop} {s : Shared} {K : Frag} {x D : Addr} {ox : Obj} {mg : Str → Option Value} {h₀ : Heap}

theorem exc_type {M : Model} {h : Heap} (hx : h.get? x = some ox) (hc : ox.cls = .ref D) : Looks M h (typeOf (.ref x)) (.ref D) := hc ▸ (Looks.ld hx).andThen .now

theorem exc_get {R : Result → Shared → Prop} {tp : Value} (X : K.In s.heap) (hx : s.heap.get? x = some ox) (hc : ox.cls = .ref D) (hm : mroIn K D (.type "object") = some true) (h : R (.ok (.ret (.ref D))) s) :
    codeAny (model prog w) A (.call (.builtin "getset_descriptor.__get__") ⟨[.builtin "object.__class__", .ref x, tp], []⟩) R s := by
  obtain ⟨hh, g, dr, t, os⟩ := s
  have L0 := exc_type (M := model prog w) hx hc
  have L1 := looks_mroIn (M := model prog w) X hm
  refine codeAny_call_builtin KF.slot_gs.plain KF.entry_gs (KF.slot_gs.check _ _ _ _ _ _ _ _ KF.type_class (KF.args_gs _ _ _) ?_)
  unfold Builtin.«getset_descriptor.__get__» Builtin.Getset_descriptor.descrGet
  rw [dga_obj]
  refine wpAny_bind (wpAny_pure ?_)
  unfold Builtin.Getset_descriptor.descrGetter Builtin.Getset_descriptor.descrCheckInstance Builtin.Getset_descriptor.descrNameAndClass isInstance
  simp only [KF.owner_class]
  repeat lk
  refine ⟨Code.quiet_builtin _ (by decide +kernel), codeAny_builtin KF.entry_class ?_⟩
  unfold Builtin.«object.__class__» shownTypeOf
  repeat lk
  exact h

theorem exc_find {M : Model} {h : Heap} (X : K.In h) (F : ExcFacts K mg h₀ D) : Looks M h (Builtin.ObjectAttr.find (.ref x) (.ref D) "__class__") (.bind (.builtin "getset_descriptor.__get__") (.builtin "object.__class__")) := by
  have L1 := looks_findIn (M := M) X F.fc
  have L2 := looks_specialIn (M := M) X F.fg
  have L3 := looks_takesIn (M := M) X F.ft
  exact L1.andThen (L2.andThen ((show Looks M h (Builtin.ObjectAttr.dataDescriptor? (some (.builtin "object.__class__")) (some (.builtin "getset_descriptor.__get__"))) (some (.builtin "getset_descriptor.__get__", .builtin "object.__class__")) from L3.andThen .now).andThen (Looks.tag .now)))

theorem exc_class {Q : Option Value → Shared → Prop} (X : K.In s.heap) (hk : ∀ b o, h₀.get? b = some o → s.heap.get? b = some o) (F : ExcFacts K mg h₀ D) (hx : s.heap.get? x = some ox) (hc : ox.cls = .ref D)
    (h : Q (some (.ref D)) { s with toks := s.toks + 1 }) : wpAny (model prog w) A (getAttr? (.ref x) "__class__") Q E s := by
  obtain ⟨hh, g, d, t, os⟩ := s
  obtain ⟨nm, O⟩ := F.own
  obtain ⟨bm, N, nm', q, bs, hdct, sn, sub, ab, col, dd, k0, k1, k2, k3, k5, mN, hC, hN, hq, T⟩ := (O.keeps hk).obj
  have L0 := exc_type (M := model prog w) hx hc
  have L1 := looks_findIn (M := model prog w) X F.ga
  have L2 := looks_findIn (M := model prog w) X F.gr
  have L3 := exc_find (M := model prog w) (x := x) X F
  unfold getAttr? getAttrBy? getAttrBy
  refine wpAny_bind (wpAny_mkText (wpAny_bind (wpAny_attempt (wpAny_holding (wpAny_bind (L0.at (wpAny_bind (L1.at ?_))))))))
  show wpAny _ _ (getAttrByItsOwn _ _ _ _ _ _) _ _ _
  unfold getAttrByItsOwn hookBefore
  refine wpAny_bind (L2.at ?_)
  refine wpAny_bind (wpAny_attempt (wpAny_holding ?_))
  show wpAny _ _ (boundAndCalled _ _ _) _ _ _
  unfold boundAndCalled
  refine wpAny_bind (wpAny_of_eq (PySem.F.excAttr_ValueError.ga.bind _) ?_)
  refine wpAny_call (codeAny_call_builtin PySem.F.excAttr_ValueError.ga.plain PySem.F.entry_bexc_ga (wpAny_check_ga_own PySem.F.attrBase_ValueError hC T hx hc ?_))
  unfold Builtin.«object.__getattribute__»
  refine wpAny_bind (wpAny_of_eq (a := (Value.ref x, [Value.str "__class__" t])) rfl ?_)
  refine wpAny_bind (wpAny_of_eq (a := ("__class__" : Str)) rfl ?_)
  refine wpAny_bind (L0.at (wpAny_bind (L3.at ?_)))
  show wpAny _ _ (holding [.builtin "object.__class__"] (call (.builtin "getset_descriptor.__get__") [.builtin "object.__class__", .ref x, .ref D]) >>= ret) _ _ _
  refine wpAny_bind (wpAny_holding (wpAny_call (exc_get X hx hc F.ob ?_)))
  refine wpAny_pure ?_
  exact wpAny_pure (a := Value.ref D) (wpAny_pure h)

theorem cls_type {M : Model} {h : Heap} (X : K.In h) (hcls : (clsIn K D).isSome = true) : Looks M h (isType (.ref D)) true := by
  obtain ⟨cd, hcd⟩ := Option.isSome_iff_exists.mp hcls
  unfold clsIn at hcd
  split at hcd
  · rename_i c' d' cd' sl' ho
    exact (Looks.ld (X _ _ ho)).andThen .now
  · cases hcd

theorem isi_kitx (F : ExcFacts K mg h₀ D) (hcls : (clsIn K D).isSome = true) : KitX K (.ref x) (.ref D) (fun h => (∀ b o, h₀.get? b = some o → h.get? b = some o) ∧ ∃ ox, h.get? x = some ox ∧ ox.cls = .ref D) where
  ty := fun _ _ _ ⟨_, ox, h1, h2⟩ => exc_type h1 h2
  it := fun _ _ X _ => cls_type X hcls
  ne := fun h tp dd its n sl X htp => by
    refine Bool.eq_false_iff.mpr fun q => ?_
    have e : D = tp := Value.ref.inj (beq_iff_eq.mp q)
    subst e
    unfold clsIn at hcls
    split at hcls
    · rename_i c' d' cd' sl' ho
      have z := (X _ _ ho).symm.trans htp
      cases z
    · cases hcls
  ca := fun X ⟨hk, ox, h1, h2⟩ k => exc_class X hk F h1 h2 k
end
end Mine

set_option autoImplicit false
set_option linter.unusedVariables false
namespace Mine
open PySem PyProof.Rows PySem.W

/-! an exception on its way through the frames -/

theorem funFrames_of {h base : Heap} : ∀ {l : List Env}, (∀ e ∈ l, e.scope.kind ≠ .module ∧ ∃ L o es n, e.frame = some L ∧ base.get? L = none ∧ h.get? L = some o ∧ o.data = .dict es n) → h.FunFrames base l
  | [], _ => trivial
  | env :: l, H => by
    obtain ⟨hk, L, o, es, n, h1, h2, h3, h4⟩ := H env (by simp)
    exact ⟨hk, ⟨L, o, h1, h2, h3, fun vs q => by rw [h4] at q; cases q⟩, funFrames_of fun e he => H e (by simp [he])⟩

/-- what may change while an exception passes -/
noncomputable def hid (W : Wd) (a : Addr) (Ts : List Addr) : List Addr := W.fr.filterMap (·.frame) ++ a :: Ts

section
variable {W : Wd} {own : Addr → Prop} {ρ0 ρ : List Addr} {H : H} {s0 s : Shared} {a : Addr} {cls a0 : Value} {Ts : List Addr} {h' : Heap} {c : Nat}

theorem frames_hid (hR : RelH W ρ H s) : s.heap.FunFrames (hideAll s.heap (hid W a Ts)) W.fr := funFrames_of fun e he => by
  obtain ⟨k, L, o, es, n, h1, h2, h3, h4, h5⟩ := hR.frs e he
  exact ⟨k, L, o, es, n, h1, hideAll_none _ (by unfold hid; exact List.mem_append_left _ (List.mem_filterMap.mpr ⟨e, he, h1⟩)), h4, h5⟩

/-- what stands once an exception has moved on -/
structure After (W : Wd) (own : Addr → Prop) (ρ0 ρ : List Addr) (H : Mine.H) (s0 s : Shared) (a : Addr) (cls a0 : Value) (c : Nat) (h' : Heap) : Prop where
  st : Step own ρ0 s0 ρ { s with heap := h' }
  rel : RelH W ρ H { s with heap := h' }
  exc : ExcAt W ρ s0.heap (.ref a) c h'
  env : ∀ env σ, EnvR W env ρ σ s.heap → EnvR W env ρ σ h'
  tr : ∃ T, (T ∉ ρ ∧ s0.heap.get? T = none ∧ W.h₀.get? T = none ∧ ∃ o vs, h'.get? T = some o ∧ o.data = .fields vs) ∧ h'.TracedW (hideAll h' (hid W a [T])) a cls a0
  cl : W.cls c = some cls
  at_ : a ∉ ρ ∧ s0.heap.get? a = none ∧ W.h₀.get? a = none ∧ ∃ o vs, h'.get? a = some o ∧ o.cls = cls ∧ o.data = .fields vs

theorem fly_after (st : Step own ρ0 s0 ρ s) (hR : RelH W ρ H s) (hc : W.cls c = some cls) (ha : a ∉ ρ) (ha0 : s0.heap.get? a = none) (hah : W.h₀.get? a = none) (haf : ∃ o vs, s.heap.get? a = some o ∧ o.data = .fields vs) (hT : ∀ T ∈ Ts, T ∉ ρ ∧ s0.heap.get? T = none ∧ W.h₀.get? T = none ∧ ∃ o vs, s.heap.get? T = some o ∧ o.data = .fields vs)
    (k1 : (hideAll s.heap (hid W a Ts)).StaysIn h') (k3 : h'.TracedW (hideAll s.heap (hid W a Ts)) a cls a0) (k4 : s.heap.UpToSlots h') :
    After W own ρ0 ρ H s0 s a cls a0 c h' := by
  have keepB : ∀ b o, s.heap.get? b = some o → b ∉ hid W a Ts → h'.get? b = some o := fun b o e hn => k1 b o (hideAll_get _ e hn)
  have isFr : ∀ b, b ∈ W.fr.filterMap (·.frame) → b ∉ ρ ∧ W.h₀.get? b = none ∧ ∃ o es n, s.heap.get? b = some o ∧ o.data = .dict es n ∧ ∃ sl, h'.get? b = some { o with slots := sl } := fun b hb => by
    obtain ⟨e, he, hf⟩ := List.mem_filterMap.mp hb
    obtain ⟨k, L, o, es, n, g1, g2, g3, g4, g5⟩ := hR.frs e he
    rw [g1] at hf; cases hf
    obtain ⟨sl, hs⟩ := k4 b o g4 fun vs q => by rw [g5] at q; cases q
    exact ⟨g2, g3, o, es, n, g4, g5, sl, hs⟩
  have mem : ∀ b, b ∈ hid W a Ts → b ∈ W.fr.filterMap (·.frame) ∨ b = a ∨ b ∈ Ts := fun b hb => by
    unfold hid at hb
    rcases List.mem_append.mp hb with hb | hb
    · exact .inl hb
    · rcases List.mem_cons.mp hb with hb | hb
      · exact .inr (.inl hb)
      · exact .inr (.inr hb)
  have anyKp : ∀ b o, s.heap.get? b = some o → b ≠ a → b ∉ Ts → ∃ o', h'.get? b = some o' ∧ Kp o o' := fun b o e h1 h2 => by
    by_cases hb : b ∈ hid W a Ts
    · rcases mem b hb with hb | hb | hb
      · obtain ⟨_, _, o1, es, n, g1, g2, sl, g3⟩ := isFr b hb
        rw [e] at g1; cases g1
        exact ⟨_, g3, .inr ⟨⟨es, n, g2⟩, sl, rfl⟩⟩
      · exact absurd hb h1
      · exact absurd hb h2
    · exact ⟨o, keepB b o e hb, .refl o⟩
  have inρ : ∀ b ∈ ρ, b ∉ hid W a Ts := fun b hb hm => by
    rcases mem b hm with q | q | q
    · exact (isFr b q).1 hb
    · exact ha (q ▸ hb)
    · exact (hT b q).1 hb
  obtain ⟨oe, vs, T, oT, ts, t1, ⟨t2, t3⟩, t4, t5, t6, t7, t8, t9, t10⟩ := k3
  have Tcase : ∀ o, s.heap.get? T = some o → T ∈ Ts := fun o e => by
    have hm : T ∈ hid W a Ts := by
      by_cases q : T ∈ hid W a Ts
      · exact q
      · rw [hideAll_get _ e q] at t6; cases t6
    rcases mem T hm with q | q | q
    · obtain ⟨_, _, o1, es, n, g1, g2, sl, g3⟩ := isFr T q
      rw [t8] at g3; cases g3
      rw [g2] at t9; cases t9
    · exact absurd q t7
    · exact q
  have Tρ : T ∉ ρ := fun q => by
    obtain ⟨o, e⟩ := hR.heap.live q
    exact (hT T (Tcase o e)).1 q
  have T0 : s0.heap.get? T = none := by
    cases q : s0.heap.get? T with
    | none => rfl
    | some o =>
      obtain ⟨o1, e1⟩ := st.live T o q
      have := (hT T (Tcase o1 e1)).2.1
      rw [q] at this; cases this
  have Th : W.h₀.get? T = none := by
    cases q : W.h₀.get? T with
    | none => rfl
    | some o =>
      have := (hT T (Tcase o (hR.keep T o q))).2.2.1
      rw [q] at this; cases this
  refine ⟨⟨st.ext, fun b o e hb ho => ?_, fun b o e => ?_⟩, ⟨fun e he => ?_, fun b o e => ?_, hR.os, hR.gens, hR.heap.kp fun b hb o e => ⟨o, keepB b o e (inρ b hb), .refl o⟩, hR.nodup, hR.new⟩,
    ⟨a, oe, vs, a0, rfl, ha, ha0, hah, t1, by rw [t2]; exact hc, t4, t3, .inr ⟨T, oT, ts, t5, t7, Tρ, T0, Th, t8, t9, t10⟩⟩, fun env σ x => x.kp fun b o e hb hn => ?_,
    ⟨T, ⟨Tρ, T0, Th, oT, ts, t8, t9⟩, ⟨oe, vs, T, oT, ts, t1, ⟨t2, t3⟩, t4, t5, hideAll_none _ (by unfold hid; simp), t7, t8, t9, t10⟩⟩, hc, ha, ha0, hah, oe, vs, t1, t2, t4⟩
  · obtain ⟨o1, e1, kp1⟩ := st.keep b o e hb ho
    obtain ⟨o2, e2, kp2⟩ := anyKp b o1 e1 (fun q => by rw [q, ha0] at e; cases e) fun q => by rw [(hT b q).2.1] at e; cases e
    exact ⟨o2, e2, kp1.trans kp2⟩
  · obtain ⟨o1, e1⟩ := st.live b o e
    obtain ⟨o2, e2, kp2⟩ := anyKp b o1 e1 (fun q => by rw [q, ha0] at e; cases e) fun q => by rw [(hT b q).2.1] at e; cases e
    exact ⟨o2, e2⟩
  · obtain ⟨k, L, o, es, n, g1, g2, g3, g4, g5⟩ := hR.frs e he
    obtain ⟨_, _, o1, es1, n1, f1, f2, sl, f3⟩ := isFr L (List.mem_filterMap.mpr ⟨e, he, g1⟩)
    exact ⟨k, L, _, es1, n1, g1, g2, g3, f3, f2⟩
  · refine keepB b o (hR.keep b o e) fun hm => ?_
    rcases mem b hm with q | q | q
    · rw [(isFr b q).2.1] at e; cases e
    · rw [q, hah] at e; cases e
    · rw [(hT b q).2.2.1] at e; cases e
  · refine anyKp b o e (fun q => ?_) fun q => ?_
    · obtain ⟨o', vs', g1, g2⟩ := haf
      rw [q, g1] at e; cases e; exact hn vs' g2
    · obtain ⟨_, _, _, o', vs', g1, g2⟩ := hT b q
      rw [g1] at e; cases e; exact hn vs' g2

variable {A : Around} {env : Env} {outer : List Env} {L : Addr} {e : Value} {E : Value → Shared → Prop} {Q : Shared → Prop} {M : Model}

/-- an exception leaves a frame -/
theorem leave_sound (hfr : A.frames = some (env :: outer)) (hW : W.fr = env :: outer) (hf : env.frame = some L) (st : Step own ρ0 s0 ρ s) (hR : RelH W ρ H s) (hx : ExcAt W ρ s0.heap e c s.heap)
    (hQ : ∀ a cls a0 h', e = .ref a → After W own ρ0 ρ H s0 s a cls a0 c h' → Q { s with heap := h' }) : wpAny M A (leaving env e) (fun _ s' => Q s') E s := by
  obtain ⟨a, o, vs, a0, rfl, h2, h3, h4, h5, h6, h7, h8, h9⟩ := hx
  have hl : ∀ Ts, s.heap.FunFrames (hideAll s.heap (hid W a Ts)) (env :: outer) := fun Ts => hW ▸ frames_hid hR
  have hen : ∀ Ts, (hideAll s.heap (hid W a Ts)).get? a = none := fun Ts => hideAll_none _ (by unfold hid; simp)
  rcases h9 with h9 | ⟨T, oT, ts, g1, g2, g3, g4, g5, g6, g7, g8⟩
  · exact wpAny_leaving_firstW hfr (hl []) hf h5 (fun b o => of_hideAll _) (hen []) h7 h9 h8 fun h' ⟨k1, _, k3, k4⟩ => hQ a _ a0 h' rfl (fly_after st hR h6 h2 h3 h4 ⟨o, vs, h5, h7⟩ (by simp) k1 k3 k4)
  · exact wpAny_leaving_nextW hfr (hl [T]) hf ⟨o, vs, T, oT, ts, h5, ⟨rfl, h8⟩, h7, g1, hideAll_none _ (by unfold hid; simp), g2, g6, g7, g8⟩ (fun b o => of_hideAll _) (hen [T])
      fun h' ⟨k1, _, k3, k4⟩ => hQ a _ a0 h' rfl (fly_after st hR h6 h2 h3 h4 ⟨o, vs, h5, h7⟩ (by simpa using ⟨g3, g4, g5, oT, g6, ts, g7⟩) k1 k3 k4)

/-- an exception is noted in a frame and lands -/
theorem note_sound (hfr : A.frames = some (env :: outer)) (hW : W.fr = env :: outer) (hf : env.frame = some L) (st : Step own ρ0 s0 ρ s) (hR : RelH W ρ H s) (hx : ExcAt W ρ s0.heap e c s.heap)
    (hQ : ∀ a cls a0 h', e = .ref a → After W own ρ0 ρ H s0 s a cls a0 c h' → Q { s with heap := h' }) :
    wpAny M A (noteFrame e env) (fun _ s₁ => wpAny M A (setFlight e none) (fun _ s₂ => Q s₂) E s₁) E s := by
  obtain ⟨a, o, vs, a0, rfl, h2, h3, h4, h5, h6, h7, h8, h9⟩ := hx
  have hl : ∀ Ts, s.heap.FunFrames (hideAll s.heap (hid W a Ts)) (env :: outer) := fun Ts => hW ▸ frames_hid hR
  have hen : ∀ Ts, (hideAll s.heap (hid W a Ts)).get? a = none := fun Ts => hideAll_none _ (by unfold hid; simp)
  have go : ∀ Ts, (∀ T ∈ Ts, T ∉ ρ ∧ s0.heap.get? T = none ∧ W.h₀.get? T = none ∧ ∃ o vs, s.heap.get? T = some o ∧ o.data = .fields vs) → ∀ h', Heap.NotedW (hideAll s.heap (hid W a Ts)) (env :: outer) a o.cls a0 (rawInt L) s.heap h' → wpAny M A (setFlight (.ref a) none) (fun _ s₂ => Q s₂) E { s with heap := h' } := fun Ts hT h' ⟨k1, k2, k3, k4⟩ =>
    wpAny_setFlight_noneW k1 k2 k3 fun h'' j1 _ j3 j4 => hQ a _ a0 h'' rfl (fly_after st hR h6 h2 h3 h4 ⟨o, vs, h5, h7⟩ hT j1 j3 (Heap.UpToSlots.trans k4 fun b o hb hn => ⟨o.slots, j4 b o hb hn⟩))
  rcases h9 with h9 | ⟨T, oT, ts, g1, g2, g3, g4, g5, g6, g7, g8⟩
  · unfold noteFrame
    simp only [hf]
    refine wpAny_bind (wpAny_field h5 h7 h9 ?_)
    rw [if_neg (by decide)]
    exact wpAny_entryW hfr (hl []) hf h5 (fun b o => of_hideAll _) (hen []) h7 (Array.getElem?_eq_some_iff.mp h9).1 h8 (go [] (by simp))
  · exact wpAny_noteFrame_onW hfr (hl [T]) hf ⟨o, vs, T, oT, ts, h5, ⟨rfl, h8⟩, h7, g1, hideAll_none _ (by unfold hid; simp), g2, g6, g7, g8⟩ (fun b o => of_hideAll _) (hen [T]) (go [T] (by simpa using ⟨g3, g4, g5, oT, g6, ts, g7⟩))

/-- it lands once more -/
theorem land_sound {s1 : Shared} (x : After W own ρ0 ρ H s0 s1 a cls a0 c s.heap) (hR : RelH W ρ H s) (hs : Step own ρ0 s0 ρ s) (hQ : ∀ h', After W own ρ0 ρ H s0 s a cls a0 c h' → Q { s with heap := h' }) :
    wpAny M A (setFlight (.ref a) none) (fun _ s₂ => Q s₂) E s := by
  obtain ⟨T, hT, ht⟩ := x.tr
  obtain ⟨q1, q2, q3, o, vs, q4, q5, q6⟩ := x.at_
  exact wpAny_setFlight_noneW (fun b o => of_hideAll _) (frames_hid hR) ht.at fun h'' j1 _ j3 j4 => hQ h'' (fly_after hs hR x.cl q1 q2 q3 ⟨o, vs, q4, q6⟩ (Ts := [T]) (by simpa using hT) j1 j3 fun b o hb hn => ⟨o.slots, j4 b o hb hn⟩)
end

/-! the class asked for -/
section
variable {W : Wd} {env : Env} {A : Around} {ρ : List Addr} {H : H} {s : Shared} {E : Value → Shared → Prop} {Q : Value → Shared → Prop}

theorem isi_exc {i : Nat} {a : Addr} {k : Nat} {t : Ty} {b : Bool} {c : Value} (X : ExcOk W) (hR : RelH W ρ H s) (hi : ρ[i]? = some a) (hk : H[i]? = some (.exc k)) (hb : isiK t (.exc k) = some b) (hc : tyVal W t = some c)
    (h : ∀ tk, Q (.bool b) { s with toks := tk }) : wpAny (model W.prog W.w) A (call (.builtin "isinstance") [.ref a, c]) Q E s := by
  obtain ⟨K, KI, facts⟩ := X
  obtain ⟨a', ha', o, C, ho, hW, hcl, vs, hd⟩ := hR.heap.obj i _ hk
  rw [hi] at ha'; cases ha'
  obtain ⟨D, rfl, F, rel⟩ := facts k C hW
  have hone : kitOne K (.ref D) c = some b := by
    cases t with
    | exc j =>
      have hb' : (k == j || j == 0) = b := Option.some.inj hb
      obtain ⟨D', rfl, _⟩ := facts j c hc
      rw [← hb']; exact rel j D' hc
    | valueError => cases hb; cases hc; exact F.ve
    | _ => cases hb
  exact kia_one (isi_kitx (x := a) F F.cl) (KI.keeps hR.keep) ⟨hR.keep, o, ho, hcl⟩ hone (by intro q; cases q) h

/-- a clause takes it -/
theorem matches_exc {a : Addr} {k j : Nat} {c : Value} {o : Obj} {QQ : Bool → Shared → Prop} (X : ExcOk W) (hR : RelH W ρ H s) (ho : s.heap.get? a = some o) (hk : W.cls k = some o.cls) (hb : (k == j || j == 0) = true) (hc : W.cls j = some c)
    (h : QQ true s) : wpAny (model W.prog W.w) A (excMatches (.ref a) c) QQ E s := by
  obtain ⟨K, KI, facts⟩ := X
  obtain ⟨D, hD, F, rel⟩ := facts k _ hk
  obtain ⟨D', rfl, F', _⟩ := facts j _ hc
  have KS := KI.keeps hR.keep
  have r1 : kitOne K (.ref D) (.ref D') = some true := hb ▸ rel j D' hc
  have L0 := exc_type (M := model W.prog W.w) ho hD
  have L1 := looks_typeIn (M := model W.prog W.w) KS F'.ty
  have L2 := looks_mroIn (M := model W.prog W.w) KS F'.be
  have L3 : Looks (model W.prog W.w) s.heap (isSubtype (.ref D) (.ref D')) true := by
    unfold kitOne at r1
    split at r1
    · rename_i q
      have e : D = D' := Value.ref.inj (beq_iff_eq.mp q)
      subst e
      exact looks_mroIn KS F.me
    · exact (kit_cls KS r1).2.2
  have L4 := cls_type (M := model W.prog W.w) KS F'.cl
  obtain ⟨hp, g, d, tk, os⟩ := s
  have f : Looks (model W.prog W.w) hp (isSubtype (.type "type") (.type "tuple")) false := Looks.of_pure tc_notTuple
  unfold excMatches isInstance isExcClass
  repeat lk
  exact h
end
end Mine

set_option autoImplicit false
set_option linter.unusedVariables false
namespace Mine
open PySem PyProof.Rows PySem.W

section
variable {W : Wd} {n : Lv} {env : Env} {C : Cx}

theorem isi_sound {A : Around} {ρ : List Addr} {σ : Sto} {H : H} {s : Shared} {E : Value → Shared → Prop} {Q : Value → Shared → Prop} {v : V} {v' : Value} {t : Ty} {k : Kd} {b : Bool} {c : Value} (X : ExcOk W) (hR : Rel W env ρ σ H s) (hv : VR ρ v v')
    (hk : kindV H v = some k) (hb : isiK t k = some b) (hc : tyVal W t = some c) (hP : Post W env ρ σ s VR (.ok (.bool b) H) Q E) : wpAny (model W.prog W.w) A (call (.builtin "isinstance") [v', c]) Q E s := by
  have q1 : ∀ tk, Q (.bool b) { s with toks := tk } := fun tk => post_here hR hP (VR.bool b) tk
  have q0 : Q (.bool b) s := post_same hR hP (VR.bool b)
  have cls : ∀ i a, ρ[i]? = some a → v = .ref i → v' = .ref a → (k = .list ∧ ∃ o, s.heap.get? a = some o ∧ o.cls = .type "list") ∨ (k = .tuple ∧ ∃ o, s.heap.get? a = some o ∧ o.cls = .type "tuple") ∨
      (k = .dict ∧ ∃ o, s.heap.get? a = some o ∧ o.cls = .type "dict") ∨ ∃ c, k = .exc c ∧ H[i]? = some (.exc c) := by
    intro i a hi e1 e2
    subst e1
    simp only [kindV] at hk
    split at hk
    · rename_i ws e
      cases hk
      obtain ⟨items, ⟨m, ho⟩, r⟩ := hR.toRelH.list hi e
      exact .inl ⟨rfl, _, ho, rfl⟩
    · rename_i ws e
      cases hk
      obtain ⟨items, m, ho, r⟩ := hR.toRelH.tup hi e
      exact .inr (.inl ⟨rfl, _, ho, rfl⟩)
    · rename_i ws e
      cases hk
      obtain ⟨b, hb, he, o, m, ho, hc, hd⟩ := hR.heap.obj i _ e
      rw [hi] at hb; cases hb
      exact .inr (.inr (.inl ⟨rfl, o, ho, hc⟩))
    · rename_i c e
      cases hk
      exact .inr (.inr (.inr ⟨c, rfl, e⟩))
    · cases hk
  cases hv with
  | none =>
    simp only [kindV, Option.some.injEq] at hk; subst hk
    cases t <;> first | (cases hb; done) | (cases hb; cases hc)
    · exact IsiPair.NoneType_int (q1 _)
    · exact IsiPair.NoneType_bool (q1 _)
    · exact IsiPair.NoneType_list (q1 _)
    · exact IsiPair.NoneType_tuple (q1 _)
    · exact IsiPair.NoneType_str (q1 _)
  | bool x =>
    simp only [kindV, Option.some.injEq] at hk; subst hk
    cases t <;> first | (cases hb; done) | (cases hb; cases hc)
    · exact IsiPair.bool_int q0
    · exact IsiPair.bool_bool q0
    · exact IsiPair.bool_list (q1 _)
    · exact IsiPair.bool_tuple (q1 _)
    · exact IsiPair.bool_str (q1 _)
  | int x u =>
    simp only [kindV, Option.some.injEq] at hk; subst hk
    cases t <;> first | (cases hb; done) | (cases hb; cases hc)
    · exact IsiPair.int_int q0
    · exact IsiPair.int_bool (q1 _)
    · exact IsiPair.int_list (q1 _)
    · exact IsiPair.int_tuple (q1 _)
    · exact IsiPair.int_str (q1 _)
  | str x u =>
    simp only [kindV, Option.some.injEq] at hk; subst hk
    cases t <;> first | (cases hb; done) | (cases hb; cases hc)
    · exact IsiPair.str_int (q1 _)
    · exact IsiPair.str_bool (q1 _)
    · exact IsiPair.str_list (q1 _)
    · exact IsiPair.str_tuple (q1 _)
    · exact IsiPair.str_str q0
  | ref i a hi =>
    rcases cls i a hi rfl rfl with ⟨rfl, o, ho, hcl⟩ | ⟨rfl, o, ho, hcl⟩ | ⟨rfl, o, ho, hcl⟩ | ⟨j, rfl, hj⟩
    · cases t <;> first | (cases hb; done) | (cases hb; cases hc)
      · exact IsiPair.list_int ho hcl (q1 _)
      · exact IsiPair.list_bool ho hcl (q1 _)
      · exact IsiPair.list_list ho hcl q0
      · exact IsiPair.list_tuple ho hcl (q1 _)
      · exact IsiPair.list_str ho hcl (q1 _)
    · cases t <;> first | (cases hb; done) | (cases hb; cases hc)
      · exact IsiPair.tuple_int ho hcl (q1 _)
      · exact IsiPair.tuple_bool ho hcl (q1 _)
      · exact IsiPair.tuple_list ho hcl (q1 _)
      · exact IsiPair.tuple_tuple ho hcl q0
      · exact IsiPair.tuple_str ho hcl (q1 _)
    · cases t <;> first | (cases hb; done) | (cases hb; cases hc)
      · exact IsiPair.dict_int ho hcl (q1 _)
      · exact IsiPair.dict_bool ho hcl (q1 _)
      · exact IsiPair.dict_list ho hcl (q1 _)
      · exact IsiPair.dict_tuple ho hcl (q1 _)
      · exact IsiPair.dict_str ho hcl (q1 _)
    · exact isi_exc X hR.toRelH hi hj hb hc q1

theorem Base.ty (B : Base W n C) {t : Ty} {c : Str} (hc : tyName W.T t = some c) : ∃ x, tyVal W t = some x ∧ (W.mg c = some x ∨ (W.mg c = none ∧ W.mb c = some x)) := by
  cases t <;> simp only [tyName, Option.some.injEq] at hc <;> try subst hc
  · exact ⟨_, rfl, .inr (B.bi .int)⟩
  · exact ⟨_, rfl, .inr (B.blt _ (.tail _ (.tail _ (.tail _ (.head _)))))⟩
  · exact ⟨_, rfl, .inr (B.bi .list)⟩
  · exact ⟨_, rfl, .inr (B.bi .tuple)⟩
  · exact ⟨_, rfl, .inr (B.blt _ (.tail _ (.tail _ (.tail _ (.tail _ (.head _))))))⟩
  · obtain ⟨C', h1, h2⟩ := B.cls _ _ hc
    exact ⟨_, h2, .inl h1⟩
  · exact ⟨_, rfl, .inr (B.blt _ (.tail _ (.tail _ (.tail _ (.tail _ (.tail _ (.head _)))))))⟩

theorem starEach_cons {e : Expr} {es : List Expr} (h : notStar e = true) : starEach (e :: es) env = (false, eval e env) :: starEach es env := by
  cases e <;> first | rfl | (exact absurd h (by simp [notStar]))
theorem starEach_two {e f : Expr} (h : notStar e = true) (h' : notStar f = true) : starEach [e, f] env = trees env [e, f] := by
  rw [starEach_cons h, starEach_cons h']; rfl

theorem sim_isi {a : X} {ea : Expr} {t : Ty} {c : Str} {p1 p2 pos : Pos} {sc : Scope} (B : Base W n C) (hsc : ScOk env sc) (ha : Sim W n env VR (eval ea env) (ev C a)) (hns : notStar ea = true)
    (h1 : isG sc "isinstance" = true) (hc : tyName W.T t = some c) (h2 : isG sc c = true) (h3 : okName c = true) :
    Sim W n env VR (eval (.Call (.Name "isinstance" p1) [ea, .Name c p2] [] pos) env) (ev C (.isi a t)) := by
  obtain ⟨x, hx, hm⟩ := B.ty hc
  intro A ρ σ H s Q E hA hR hP
  rw [ev] at hP
  show wpAny _ A (do callWith pos (← eval (.Name "isinstance" p1) env) [] (backTo pos (starEach [ea, .Name c p2] env)) []) Q E s
  refine wpAny_bind (load_glob B hsc hR h1 (by decide) (.inr (B.blt _ (.head _))) ?_)
  rw [starEach_two hns rfl, backTo_plain]
  refine Calls.callWith_builtin (trees_any _ _) (Calls.evalArgs_plain (Calls.spliced_cons (wpAny_mono (ha A ρ σ H s _ _ hA hR hP.bind) ?_ fun _ _ e => e)))
  rintro v' s1 ⟨v, H1, ρ1, st1, r1, v1, hP1⟩
  refine Calls.spliced_cons (load_glob B hsc r1 h2 h3 hm (Calls.spliced_nil ?_))
  cases hk : kindV H1 v with
  | none => rw [hk] at hP1; exact hP1.elim
  | some k =>
    rw [hk] at hP1
    cases hb : isiK t k with
    | none => simp only [hb] at hP1; exact hP1.elim
    | some b =>
      simp only [hb] at hP1
      exact isi_sound B.exc r1 v1 hk hb hx hP1

theorem sim_bi {b : Bi} {xs : List X} {es : List Expr} {p1 pos : Pos} {sc : Scope} (B : Base W n C) (hsc : ScOk env sc) (h : SimAll W n env C xs es) (h1 : isG sc (biName b) = true) :
    Sim W n env VR (eval (.Call (.Name (biName b) p1) es [] pos) env) (ev C (.bi b xs)) := by
  intro A ρ σ H s Q E hA hR hP
  rw [ev] at hP
  show wpAny _ A (do callWith pos (← eval (.Name (biName b) p1) env) [] (backTo pos (starEach es env)) []) Q E s
  refine wpAny_bind (load_glob B hsc hR h1 (by cases b <;> decide) (.inr (B.bi b)) ?_)
  rw [starEach_plain h, backTo_plain]
  have main : wpAny (model W.prog W.w) A (evalArgs (biVal b) true (trees env es) []) (fun a s₁ => wpAny (model W.prog W.w) A (call (biVal b) ([] ++ a.pos) a.kw) Q E s₁) E s := by
    refine wpAny_mono (sim_args h A ρ σ H s _ _ hA hR hP.bind) ?_ fun _ _ e => e
    rintro a s1 ⟨vs, H1, ρ1, st1, r1, ⟨v1, hkw⟩, hP1⟩
    rw [hkw, List.nil_append]
    split at hP1
    · rename_i hc
      rcases Bool.or_eq_true_iff.mp hc with hc | hc
      · exact bi_sound (.inr (hA.1 (B.calm ▸ hc))) r1 v1 hP1
      · exact bi_sound (.inl hc) r1 v1 hP1
    · exact hP1.elim
  have viaB : ∀ id, biVal b = .builtin id → wpAny (model W.prog W.w) A (callWith pos (biVal b) [] (trees env es) []) Q E s := fun id e => by
    rw [e] at main ⊢
    exact Calls.callWith_builtin (trees_any _ _) main
  have viaT : ∀ id, biVal b = .type id → wpAny (model W.prog W.w) A (callWith pos (biVal b) [] (trees env es) []) Q E s := fun id e => by
    rw [e] at main ⊢
    unfold callWith
    refine wpAny_bind (wpAny_holding (wpAny_mono main (fun a s₁ h₁ => wpAny_bind (wpAny_standAt ?_)) fun _ _ x => x))
    simp only [trees_any, List.any_nil, Bool.or_false]
    refine wpAny_bind (wpAny_pure ?_)
    exact wpAny_bind (wpAny_mono h₁ (fun r s₂ hr => wpAny_bind (wpAny_holding (wpAny_point (wpAny_pure hr)))) fun _ _ x => x)
  cases hb : biVal b with
  | builtin id => rw [← hb]; exact viaB id hb
  | type id => rw [← hb]; exact viaT id hb
  | _ => cases b <;> cases hb

theorem sim_call {f : Nat} {nm : Str} {xs : List X} {es : List Expr} {p1 pos : Pos} {sc : Scope} (B : Base W n C) (hsc : ScOk env sc) (h : SimAll W n env C xs es) (hf : W.T.fns[f]? = some (some nm)) (h1 : isG sc nm = true) (h2 : okName nm = true) :
    Sim W n env VR (eval (.Call (.Name nm p1) es [] pos) env) (ev C (.call f xs)) := by
  intro A ρ σ H s Q E hA hR hP
  rw [ev] at hP
  obtain ⟨fa, o, fd, hmg, ho, hd, hsim, _⟩ := B.fn f nm hf
  show wpAny _ A (do callWith pos (← eval (.Name nm p1) env) [] (backTo pos (starEach es env)) []) Q E s
  refine wpAny_bind (load_glob B hsc hR h1 h2 (.inl hmg) ?_)
  rw [starEach_plain h, backTo_plain]
  refine Calls.callWith_function (o := o) (fd := fd) (wpAny_mono (sim_args h A ρ σ H s _ _ hA hR hP.bind) ?_ fun _ _ e => e)
  rintro a s1 ⟨vs, H1, ρ1, st1, r1, ⟨v1, hkw⟩, hP1⟩
  refine ⟨⟨r1.keep _ _ ho, hd⟩, ?_⟩
  rw [hkw, List.nil_append]
  refine hsim vs H1 A ρ1 s1 Q E a.pos hA r1.toRelH v1 ?_
  have fr : ∀ {ρ' s'}, Step no ρ1 s1 ρ' s' → EnvR W env ρ' σ s'.heap := fun st => r1.env.step st (fun q => q) fun _ _ _ _ q => q
  revert hP1
  generalize C.F f vs H1 = r
  intro hP1
  cases r with
  | stuck => exact hP1
  | exc c H' => exact fun e ρ' s' st rh => hP1 e ρ' s' st ⟨rh, fr st⟩
  | ok v H' => exact fun e ρ' s' st rh => hP1 e ρ' s' st ⟨rh, fr st⟩
end
end Mine

set_option autoImplicit false
set_option linter.unusedVariables false
namespace Mine
open PySem PyProof.Rows

section
variable {W : Wd} {n : Lv} {env : Env} {C : Cx}

noncomputable def meId : Me → String
  | .append => "list.append" | .index => "list.index" | .pop => "list.pop" | .clear => "list.clear"

theorem append_sound {A : Around} {ρ : List Addr} {σ : Sto} {H : H} {s : Shared} {E : Value → Shared → Prop} {Q : Value → Shared → Prop} {i : Nat} {a : Addr} {vs : List V} {v : V} {v' : Value} (hR : Rel W env ρ σ H s) (hi : ρ[i]? = some a)
    (he : H[i]? = some (.list vs)) (hv : VR ρ v v') (hb : vs.length ≤ big) (hP : Post W env ρ σ s VR (.ok .none (H.set i (.list (vs ++ [v])))) Q E) :
    wpAny (model W.prog W.w) A (call (.builtin "list.append") [.ref a, v']) Q E s := by
  obtain ⟨items, hl, r⟩ := hR.toRelH.list hi he
  have hlen := r.length
  simp only [Array.length_toList] at hlen
  have hbl := big_le
  refine wpAny_list_append_plain hl (fun h' hl' hs' => ?_) (by omega)
  refine hP _ ρ _ (Step.change (tk := s.toks) hi hs' (let ⟨m, e⟩ := hl'; ⟨_, e⟩)) (hR.change (tk := s.toks) hi he (by simp) ⟨_, hl', ?_⟩ hs') VR.none
  rw [Array.toList_push]
  exact r.snoc hv

theorem clear_sound {A : Around} {ρ : List Addr} {σ : Sto} {H : H} {s : Shared} {E : Value → Shared → Prop} {Q : Value → Shared → Prop} {i : Nat} {a : Addr} {vs : List V} (hR : Rel W env ρ σ H s) (hi : ρ[i]? = some a)
    (he : H[i]? = some (.list vs)) (hb : vs.length ≤ big) (hP : Post W env ρ σ s VR (.ok .none (H.set i (.list []))) Q E) :
    wpAny (model W.prog W.w) A (call (.builtin "list.clear") [.ref a]) Q E s := by
  obtain ⟨items, ⟨m, ho⟩, r⟩ := hR.toRelH.list hi he
  have hlen := r.length
  simp only [Array.length_toList] at hlen
  have hbl := big_le
  refine call_meets PySem.F.slot_list_clear ⟨_, ho, rfl⟩ PySem.F.entry_list_clear (PySem.F.args_list_clear_1 _) (AutoSeq1.list_clear_list_0 a items m (by omega)) ⟨ho, ?_⟩
  have hs' : Heap.SameBut a s.heap (s.heap.update a (Obj.mapSeq fun _ => #[])) := Heap.SameBut.update ..
  have hg : ∃ m', (s.heap.update a (Obj.mapSeq fun _ => #[])).get? a = some { cls := .type "list", data := .seq #[] m' } :=
    ⟨_, Heap.get?_update_self _ ho rfl⟩
  obtain ⟨m', hg⟩ := hg
  exact hP _ ρ _ (Step.change hi hs' ⟨_, hg⟩) (hR.change hi he (by simp) ⟨_, ⟨m', hg⟩, VRs.nil⟩ hs') VR.none

theorem me_sound {A : Around} {ρ : List Addr} {σ : Sto} {H : H} {s : Shared} {E : Value → Shared → Prop} {Q : Value → Shared → Prop} {m : Me} {o : V} {o' : Value} {vs : List V} {xs : List Value} (hA : AOk W.fr A n) (hR : Rel W env ρ σ H s)
    (ho : VR ρ o o') (hv : VRs ρ vs xs) (hP : Post W env ρ σ s VR (meV m o vs H) Q E) : wpAny (model W.prog W.w) A (call (.builtin (meId m)) (o' :: xs) []) Q E s := by
  unfold meV at hP
  split at hP
  · rename_i i
    cases ho with
    | ref _ a hi =>
      split at hP
      · rename_i ws he
        split at hP
        · rename_i v
          cases hv with
          | cons h1 h2 =>
            cases h2
            split at hP
            · rename_i hb; exact append_sound hR hi he h1 hb hP
            · exact hP.elim
        · cases hv
          split at hP
          · rename_i hb; exact clear_sound hR hi he hb hP
          · exact hP.elim
        · rename_i v
          cases hv with
          | cons h1 h2 =>
            cases h2
            split at hP
            · rename_i k hk
              split at hP
              · rename_i hb
                unfold indexV at hk
                split at hk
                · rename_i ds d hx hy
                  split at hk
                  · rename_i hc
                    obtain ⟨c1, c2⟩ := Bool.and_eq_true_iff.mp hc
                    obtain ⟨as, rb⟩ := rd_reads hR.heap hx (.ref i a hi)
                    obtain ⟨bs, ra⟩ := rd_reads hR.heap hy h1
                    have d2 := rd_depth hy
                    obtain ⟨items, ⟨q, hl⟩, r⟩ := hR.toRelH.list hi he
                    cases rb with
                    | list g1 g2 g3 g4 =>
                      rw [hl] at g1; cases g1; cases g3
                      have hmap := SeqAt.readsAll_map ds _ _ c1 g4
                      have hu : A.units + 1 + min (PyData.depthAll ds) d.depth < cLine := by
                        have h1 : min (PyData.depthAll ds) d.depth ≤ d.depth := Nat.min_le_right _ _
                        have := hA.2.2.1; simp only [cLine]; omega
                      have heq := SeqAt.items_eqAt (A := A) g4 ra c1 c2 hu
                      obtain ⟨hkl, hk1, hk2⟩ := List.findIdx?_eq_some_iff_getElem.mp hk
                      have hlen : ds.length = items.size := by rw [← hmap, List.length_map, Array.length_toList]
                      have hrs := r.length
                      simp only [Array.length_toList] at hrs
                      have hat : ∀ j (hj : j < items.size), SeqAt.readOf s.heap items[j] = ds[j]'(by omega) := fun j hj => by
                        have := congrArg (fun l => l[j]?) hmap
                        simp only [List.getElem?_map, Array.getElem?_toList] at this
                        rw [Array.getElem?_eq_getElem hj, List.getElem?_eq_getElem (by omega)] at this
                        simpa using this
                      refine call_meets PySem.F.slot_list_index ⟨_, hl, rfl⟩ PySem.F.entry_list_index (PySem.F.args_list_index_2 _ _)
                        (SeqAt.list_indexAt a items q none #[] _ (fun y => PyData.eqv (SeqAt.readOf s.heap y) d) k (by omega) (by simp only [big] at hb; omega) (by rw [hat k (by omega)]; exact hk1)
                          fun m hm hmk => by rw [hat m hm]; simpa using hk2 m hmk) ⟨hl, heq, post_here hR hP (VR.int _ _) _⟩
                  · cases hk
                · cases hk
              · exact hP.elim
            · exact hP.elim
        · exact hP.elim
      · exact hP.elim
  · exact hP.elim

theorem base_plain {o : Expr} {nm : Str} (h : notCall o = true) : attributeBase o nm env (eval o env) = eval o env := by
  unfold attributeBase
  cases o <;> first | rfl | (exact absurd h (by simp [notCall]))

theorem sim_meth {m : Me} {o : X} {eo : Expr} {xs : List X} {es : List Expr} {ap pos : Pos} (ho : Sim W n env VR (eval eo env) (ev C o)) (hb : notCall eo = true) (hline : (ap.endLine == pos.line) = true) (hfew : es.length < 9)
    (h : SimAll W n env C xs es) : Sim W n env VR (eval (.Call (.Attribute eo (meName m) ap) es [] pos) env) (ev C (.meth m o xs)) := by
  intro A ρ σ H s Q E hA hR hP
  rw [ev] at hP
  refine wpAny_Call_method_late (trees := trees env es) (base_plain hb) ?_ hline (by rw [starEach_plain h, backTo_plain]) ?_
  · rw [starEach_plain h, backTo_plain]
    have h1 : (trees env es).all (fun x => !x.1) = true := by simp [trees]
    rw [h1, show (backToKw pos (keywordEach [] env)).all (fun x => x.1.isSome) = true from rfl]
    simp only [Bool.true_and, decide_eq_true_eq]
    show es.length + 0 + 0 < 30
    omega
  · refine wpAny_mono (ho A ρ σ H s _ _ hA hR hP.bind) ?_ fun _ _ e => e
    rintro o' s1 ⟨v, H1, ρ1, st1, r1, v1, hP1⟩
    cases hk : kindV H1 v with
    | none => rw [hk] at hP1; exact hP1.elim
    | some k =>
      rw [hk] at hP1
      cases k with
      | list =>
        obtain ⟨i, a, hi, e1, e2, ws, he⟩ : ∃ i a, ρ1[i]? = some a ∧ v = .ref i ∧ o' = .ref a ∧ ∃ ws, H1[i]? = some (O.list ws) := by
          cases v1 with
          | ref i a hi =>
            simp only [kindV] at hk
            split at hk
            · rename_i ws e; exact ⟨i, a, hi, rfl, rfl, ws, e⟩
            all_goals cases hk
          | _ => simp [kindV] at hk
        subst e1 e2
        obtain ⟨items, ⟨q, hl⟩, r⟩ := r1.toRelH.list hi he
        have main : wpAny (model W.prog W.w) A (callWith pos (.builtin (meId m)) [.ref a] (trees env es) []) Q E s1 := by
          refine Calls.callWith_builtin (trees_any _ _) (wpAny_mono (sim_args h A ρ1 σ H1 s1 _ _ hA r1 hP1.bind) ?_ fun _ _ e => e)
          rintro w s2 ⟨vs, H2, ρ2, st2, r2, ⟨v2, hkw⟩, hP2⟩
          rw [hkw]
          exact me_sound hA r2 (st2.vr (VR.ref i a hi)) v2 hP2
        refine ⟨"list", meId m, PySem.F.plainAttrs_list, ?_, ?_, ⟨_, hl, rfl⟩, fun b e => by cases e; exact ⟨_, hl, rfl⟩, main⟩
        · cases m
          · exact PySem.F.slot_list_append
          · exact PySem.F.slot_list_index
          · exact PySem.F.slot_list_pop
          · exact PySem.F.slot_list_clear
        · cases m
          · exact PySem.F.type_list_append
          · exact PySem.F.type_list_index
          · exact PySem.F.type_list_pop
          · exact PySem.F.type_list_clear
      | _ => exact hP1.elim
end
end Mine

set_option autoImplicit false
set_option linter.unusedVariables false
namespace Mine
open PySem PyProof.Rows

/-! iterators -/

noncomputable def ItSt (ρ : List Addr) (src : Src) (h : Heap) (it : Addr) (j : Nat) : Prop := match src.live with
  | some (i, .list vs) => ∃ a, ρ[i]? = some a ∧ ((vs = src.items ∧ h.IsListIter it a j) ∨ (vs.reverse = src.items ∧ h.IsRevIter it a ((vs.length : Int) - 1 - (j : Int))))
  | some (i, .tuple vs) => vs = src.items ∧ ∃ a, ρ[i]? = some a ∧ h.IsTupleIter it a j
  | some _ => False
  | Option.none => ∃ a n, src.items = countV a n ∧ IsRangeIter h it (a + (j : Int)) ((n : Int) - (j : Int)) 1

theorem ItSt.mono {ρ δ : List Addr} {src : Src} {h : Heap} {it : Addr} {j : Nat} (x : ItSt ρ src h it j) : ItSt (ρ ++ δ) src h it j := by
  obtain ⟨items, live⟩ := src
  cases live with
  | none => exact x
  | some p =>
    obtain ⟨i, o⟩ := p
    cases o with
    | list vs => obtain ⟨a, ha, r⟩ := x; exact ⟨a, by rw [List.getElem?_append_left (List.getElem?_eq_some_iff.mp ha).1]; exact ha, r⟩
    | tuple vs => obtain ⟨e, a, ha, r⟩ := x; exact ⟨e, a, by rw [List.getElem?_append_left (List.getElem?_eq_some_iff.mp ha).1]; exact ha, r⟩
    | _ => exact x.elim
theorem ItSt.keep {ρ : List Addr} {src : Src} {h h' : Heap} {it : Addr} {j : Nat} (x : ItSt ρ src h it j) (k : ∀ o, h.get? it = some o → ∃ o', h'.get? it = some o' ∧ Kp o o') : ItSt ρ src h' it j := by
  obtain ⟨items, live⟩ := src
  cases live with
  | none =>
    obtain ⟨a, n, e, r⟩ := x
    obtain ⟨o', ho', hk⟩ := k _ r
    exact ⟨a, n, e, by show h'.get? it = _; rw [ho', hk.eq (by simp)]⟩
  | some p =>
    obtain ⟨i, o⟩ := p
    cases o with
    | list vs =>
      obtain ⟨a, ha, ⟨e, o, ho, hc, hd⟩ | ⟨e, o, ho, hc, hd⟩⟩ := x
      · obtain ⟨o', ho', hk⟩ := k _ ho
        exact ⟨a, ha, .inl ⟨e, o', ho', hk.cls.trans hc, hk.data.trans hd⟩⟩
      · obtain ⟨o', ho', hk⟩ := k _ ho
        exact ⟨a, ha, .inr ⟨e, o', ho', hk.cls.trans hc, hk.data.trans hd⟩⟩
    | tuple vs =>
      obtain ⟨e, a, ha, ⟨o, ho, hc, hd⟩⟩ := x
      obtain ⟨o', ho', hk⟩ := k _ ho
      exact ⟨e, a, ha, o', ho', hk.cls.trans hc, hk.data.trans hd⟩
    | _ => exact x.elim
theorem ItSt.alive {ρ : List Addr} {src : Src} {h : Heap} {it : Addr} {j : Nat} (x : ItSt ρ src h it j) : ∃ o, h.get? it = some o ∧ ∃ vs, o.data = .fields vs := by
  obtain ⟨items, live⟩ := src
  cases live with
  | none => obtain ⟨a, n, e, r⟩ := x; exact ⟨_, r, _, rfl⟩
  | some p =>
    obtain ⟨i, o⟩ := p
    cases o with
    | list vs =>
      obtain ⟨a, ha, ⟨e, o, ho, hc, hd⟩ | ⟨e, o, ho, hc, hd⟩⟩ := x
      · exact ⟨o, ho, _, hd⟩
      · exact ⟨o, ho, _, hd⟩
    | tuple vs => obtain ⟨e, a, ha, ⟨o, ho, hc, hd⟩⟩ := x; exact ⟨o, ho, _, hd⟩
    | _ => exact x.elim

theorem countV_length (a : Int) (m : Nat) : (countV a m).length = m := by
  induction m generalizing a with
  | zero => rfl
  | succ m ih => simp [countV, ih]
theorem countV_get (a : Int) (m : Nat) : ∀ {j : Nat}, j < m → (countV a m)[j]? = some (.int (a + j)) := by
  induction m generalizing a with
  | zero => intro j h; omega
  | succ m ih =>
    intro j h
    cases j with
    | zero => simp [countV]
    | succ j => simp only [countV, List.getElem?_cons_succ]; rw [ih (a + 1) (by omega)]; congr 2; omega

section
variable {W : Wd} {n : Lv} {env : Env} {C : Cx}

theorem next_item {A : Around} {ρ : List Addr} {H : H} {s : Shared} {E : Value → Shared → Prop} {Q : Option Value → Shared → Prop} {src : Src} {it : Addr} {j : Nat} {v : V} (hR : RelH W ρ H s) (hs : src.stands H) (hi : ItSt ρ src s.heap it j)
    (hv : src.items[j]? = some v) (h : ∀ v' h' tk, VR ρ v v' → ItSt ρ src h' it (j + 1) → Heap.SameBut it s.heap h' → Q (some v') { s with heap := h', toks := tk }) :
    wpAny (model W.prog W.w) A (pyNext (.ref it)) Q E s := by
  obtain ⟨items, live⟩ := src
  cases live with
  | none =>
    obtain ⟨a, m, e, r⟩ := hi
    simp only at e hv
    rw [e] at hv
    have hj : j < m := by have := (List.getElem?_eq_some_iff.mp hv).1; rwa [countV_length] at this
    rw [countV_get a m hj] at hv
    cases hv
    refine wpAny_pyNext_range_item r (by omega) fun h' hit' hs' => h _ h' _ (VR.int _ _) ⟨a, m, e, ?_⟩ hs'
    have e1 : a + ((j + 1 : Nat) : Int) = a + (j : Int) + 1 := by omega
    have e2 : (m : Int) - ((j + 1 : Nat) : Int) = (m : Int) - (j : Int) - 1 := by omega
    rw [e1, e2]; exact hit'
  | some p =>
    obtain ⟨i, o⟩ := p
    cases o with
    | list vs =>
      obtain ⟨a, ha, ⟨e, r⟩ | ⟨e, r⟩⟩ := hi
      · simp only at e
        subst e
        obtain ⟨items, hl, rr⟩ := hR.list ha hs
        obtain ⟨x, hx, hvx⟩ := rr.at hv
        exact wpAny_pyNext_list_item r hl.isList (by rw [← Array.getElem?_toList]; exact hx) fun h' hit' hs' => h x h' s.toks hvx ⟨a, ha, .inl ⟨rfl, hit'⟩⟩ hs'
      · simp only at e
        subst e
        obtain ⟨items, hl, rr⟩ := hR.list ha hs
        have hj : j < vs.length := by have := (List.getElem?_eq_some_iff.mp hv).1; simpa using this
        have hv' : vs[vs.length - 1 - j]? = some v := by rw [← List.getElem?_reverse hj]; exact hv
        obtain ⟨x, hx, hvx⟩ := rr.at hv'
        have ei : (vs.length : Int) - 1 - (j : Int) = ((vs.length - 1 - j : Nat) : Int) := by omega
        rw [ei] at r
        refine wpAny_pyNext_rev_item r hl.isList (by rw [← Array.getElem?_toList]; exact hx) fun h' hit' hs' => h x h' s.toks hvx ⟨a, ha, .inr ⟨rfl, ?_⟩⟩ hs'
        have e2 : (vs.length : Int) - 1 - ((j + 1 : Nat) : Int) = ((vs.length - 1 - j : Nat) : Int) - 1 := by omega
        rw [e2]; exact hit'
    | tuple vs =>
      obtain ⟨e, a, ha, r⟩ := hi
      simp only at e
      subst e
      obtain ⟨items, q, hl, rr⟩ := hR.tup ha hs
      obtain ⟨x, hx, hvx⟩ := rr.at hv
      exact wpAny_pyNext_tuple_item r ⟨_, hl, rfl, q, rfl⟩ (by rw [← Array.getElem?_toList]; exact hx) fun h' hit' hs' => h x h' s.toks hvx ⟨rfl, a, ha, hit'⟩ hs'
    | _ => exact hi.elim

theorem next_end {A : Around} {ρ : List Addr} {H : H} {s : Shared} {E : Value → Shared → Prop} {Q : Option Value → Shared → Prop} {src : Src} {it : Addr} (hA : A.handled = none) (hR : RelH W ρ H s) (hs : src.stands H) (hi : ItSt ρ src s.heap it src.items.length)
    (h : ∀ h' tk, Heap.ExtBut it s.heap h' → Q none { s with heap := h', toks := tk }) :
    wpAny (model W.prog W.w) A (pyNext (.ref it)) Q E s := by
  obtain ⟨items, live⟩ := src
  cases live with
  | none =>
    obtain ⟨a, m, e, r⟩ := hi
    simp only at e
    rw [e, countV_length] at r
    exact wpAny_pyNext_range_end hA r (by omega) fun h' he => h h' s.toks he
  | some p =>
    obtain ⟨i, o⟩ := p
    cases o with
    | list vs =>
      obtain ⟨a, ha, ⟨e, r⟩ | ⟨e, r⟩⟩ := hi
      · simp only at e
        subst e
        obtain ⟨items, hl, rr⟩ := hR.list ha hs
        have hlen := rr.length
        simp only [Array.length_toList] at hlen
        exact wpAny_pyNext_list_end hA r hl.isList (by simp [hlen]) fun h' he => h h' s.toks he
      · simp only at e
        subst e
        have e2 : (vs.length : Int) - 1 - ((vs.reverse.length : Nat) : Int) = -1 := by rw [List.length_reverse]; omega
        rw [e2] at r
        exact wpAny_pyNext_rev_end hA r fun h' he => h h' s.toks he
    | tuple vs =>
      obtain ⟨e, a, ha, r⟩ := hi
      simp only at e
      subst e
      obtain ⟨items, q, hl, rr⟩ := hR.tup ha hs
      have hlen := rr.length
      simp only [Array.length_toList] at hlen
      exact wpAny_pyNext_tuple_end hA r ⟨_, hl, rfl, q, rfl⟩ (by simp [hlen]) fun h' he => h h' s.toks he
    | _ => exact hi.elim

theorem iter_self {A : Around} {ρ : List Addr} {s : Shared} {E : Value → Shared → Prop} {Q : Value → Shared → Prop} {src : Src} {it : Addr} {j : Nat} (hi : ItSt ρ src s.heap it j) (h : Q (.ref it) s) :
    wpAny (model W.prog W.w) A (pyIter (.ref it)) Q E s := by
  obtain ⟨items, live⟩ := src
  cases live with
  | none => obtain ⟨a, m, e, r⟩ := hi; exact wpAny_pyIter_rangeiter r h
  | some p =>
    obtain ⟨i, o⟩ := p
    cases o with
    | list vs =>
      obtain ⟨a, ha, ⟨e, r⟩ | ⟨e, r⟩⟩ := hi
      · exact wpAny_pyIter_listiter r h
      · exact wpAny_pyIter_revIter r h
    | tuple vs => obtain ⟨e, a, ha, r⟩ := hi; exact wpAny_pyIter_tupleiter r h
    | _ => exact hi.elim

/-- an iterable made into its iterator -/
theorem iter_new {A : Around} {ρ : List Addr} {H : H} {s : Shared} {E : Value → Shared → Prop} {Q : Value → Shared → Prop} {src : Src} {v : V} {v' : Value} (hR : RelH W ρ H s) (hv : VR ρ v v') (hs : srcV v H = some src)
    (h : ∀ ob, ob.isFreed = false → ItSt ρ src (s.heap.push ob) s.heap.objs.size 0 → src.stands H → Q (.ref s.heap.objs.size) { s with heap := s.heap.push ob }) :
    wpAny (model W.prog W.w) A (pyIter v') Q E s := by
  unfold srcV at hs
  split at hs
  · rename_i i
    cases hv with
    | ref _ a hi =>
      split at hs
      · rename_i vs e
        cases hs
        obtain ⟨items, hl, rr⟩ := hR.list hi e
        exact wpAny_pyIter_list hl.isList (h _ rfl ⟨a, hi, .inl ⟨rfl, _, Heap.get?_push_size _ rfl, rfl, rfl⟩⟩ e)
      · rename_i vs e
        cases hs
        obtain ⟨items, q, hl, rr⟩ := hR.tup hi e
        exact wpAny_pyIter_tuple ⟨_, hl, rfl, q, rfl⟩ (h _ rfl ⟨rfl, a, hi, _, Heap.get?_push_size _ rfl, rfl, rfl⟩ e)
      · cases hs
  · cases hs

/-- a record is no frame -/
theorem RelH.noFr_it {ρ ρ' : List Addr} {H : H} {s : Shared} {src : Src} {it : Addr} {j : Nat} (x : RelH W ρ H s) (hi : ItSt ρ' src s.heap it j) : ∀ e ∈ W.fr, e.frame ≠ some it :=
  x.noFr fun o es n e q => by obtain ⟨o', e', vs, d'⟩ := hi.alive; rw [e] at e'; cases e'; rw [q] at d'; cases d'
theorem RelH.noFr_list {ρ : List Addr} {H : H} {s : Shared} {D : Addr} {ys : Array Value} (x : RelH W ρ H s) (hi : s.heap.PlainList D ys) : ∀ e ∈ W.fr, e.frame ≠ some D :=
  x.noFr fun o es n e q => by obtain ⟨m, e'⟩ := hi; rw [e] at e'; cases e'; cases q

/-! stores -/

theorem Step.then {own : Addr → Prop} {ρ₁ ρ₂ ρ₃ : List Addr} {s₁ s₂ s₃ : Shared} (x : Step no ρ₁ s₁ ρ₂ s₂) (y : Step own ρ₂ s₂ ρ₃ s₃) (h : ∀ b, own b → s₁.heap.get? b = none) : Step no ρ₁ s₁ ρ₃ s₃ := by
  have x' : Step own ρ₁ s₁ ρ₂ s₂ := x.of_no
  exact (x'.trans y).weaken fun b o e q => by rw [h b q] at e; cases e

noncomputable def del (σ : Sto) (v : Nat) : Sto := fun j => if j = v then Option.none else σ j
theorem upd_del (σ : Sto) (v : Nat) (x : V) : upd (del σ v) v x = upd σ v x := by
  funext j; unfold upd del; split <;> rfl
theorem EnvR.weaken {ρ : List Addr} {σ σ' : Sto} {h : Heap} (x : EnvR W env ρ σ h) (hs : ∀ i v, σ' i = some v → σ i = some v) : EnvR W env ρ σ' h := by
  refine ⟨x.kind, x.glob, x.blt, ?_, fun n hn => ?_, x.inj, x.loc, x.new⟩
  · obtain ⟨m, hm, r⟩ := x.ns
    exact ⟨m, hm, fun i v n h1 => r i v n (hs i v h1)⟩
  · obtain ⟨c, y, h1, h2, h3, h4, h5⟩ := x.cell n hn
    exact ⟨c, y, h1, h2, h3, h4, fun i v e => h5 i v (hs i v e)⟩

theorem SameBut.kp {a b : Addr} {h h' : Heap} (hs : Heap.SameBut a h h') (hb : b ≠ a) {o : Obj} (e : h.get? b = some o) : ∃ o', h'.get? b = some o' ∧ Kp o o' := ⟨o, (hs.2 b hb).trans e, .refl o⟩

/-- a heap changed at one address that is neither the small heap's nor the module's -/
theorem RelH.aside {ρ : List Addr} {H : H} {s : Shared} (x : RelH W ρ H s) {b : Addr} {h' : Heap} {tk : Nat} (he : Heap.ExtBut b s.heap h') (hb : b ∉ ρ) (hn : W.h₀.get? b = none) (hq : (∀ e ∈ W.fr, e.frame ≠ some b) ∨ ∃ o es n, h'.get? b = some o ∧ o.data = .dict es n) : RelH W ρ H { s with heap := h', toks := tk } :=
  ⟨fun e m => (x.frs e m).but he (hq.imp (fun q => q e m) id), fun c o e => he c o (fun q => by rw [q, hn] at e; cases e) (x.keep c o e), x.os, x.gens, x.heap.kp fun a ha o e => ⟨o, he a o (fun q => hb (q ▸ ha)) e, .refl o⟩, x.nodup, x.new⟩
theorem EnvR.aside {ρ : List Addr} {σ : Sto} {h h' : Heap} (x : EnvR W env ρ σ h) {b : Addr} (he : Heap.ExtBut b h h') (hl : env.locals ≠ b) (hc : ∀ n c, env.kindOf n = some .cell ∨ env.kindOf n = some .free → env.cells.lookup n = some c → c ≠ b) :
    EnvR W env ρ σ h' := by
  refine ⟨x.kind, x.glob, x.blt, ?_, fun n hn => ?_, x.inj, x.loc, x.new⟩
  · obtain ⟨m, hm, r⟩ := x.ns
    exact ⟨m, ns_kp hm fun o e => ⟨o, he _ o hl e, .refl o⟩, r⟩
  · obtain ⟨c, y, h1, h2, h3, h4, h5⟩ := x.cell n hn
    exact ⟨c, y, h1, isCell_kp h2 fun o e => ⟨o, he _ o (hc n c hn h1) e, .refl o⟩, h3, h4, h5⟩

/-- the frame's own things are no records -/
theorem EnvR.notFields {ρ : List Addr} {σ : Sto} {h : Heap} (x : EnvR W env ρ σ h) {b : Addr} {o : Obj} (e : h.get? b = some o) (hd : (∃ vs, o.data = .fields vs) ∨ ∃ vs k, o.data = .seq vs k) :
    env.locals ≠ b ∧ ∀ n c, env.kindOf n = some .cell ∨ env.kindOf n = some .free → env.cells.lookup n = some c → c ≠ b := by
  refine ⟨fun q => ?_, fun n c hk hc q => ?_⟩
  · obtain ⟨m, ⟨o', es, ep, ho', hd', _⟩, _⟩ := x.ns
    rw [q, e] at ho'; cases ho'
    rcases hd with ⟨vs, hd⟩ | ⟨vs, k, hd⟩ <;> (rw [hd] at hd'; cases hd')
  · obtain ⟨c', y, h1, ⟨o', ho', hd'⟩, _⟩ := x.cell n hk
    rw [hc] at h1; cases h1
    rw [q, e] at ho'; cases ho'
    rcases hd with ⟨vs, hd⟩ | ⟨vs, k, hd⟩ <;> (rw [hd] at hd'; cases hd')

theorem nodup_inj {α : Type} {l : List α} (hn : l.Nodup) {i j : Nat} {a : α} (hi : l[i]? = some a) (hj : l[j]? = some a) : i = j :=
  (List.getElem?_inj (List.getElem?_eq_some_iff.mp hi).1 hn).mp (hi.trans hj.symm)

theorem store_sound {A : Around} {ρ : List Addr} {σ : Sto} {H : H} {s : Shared} {E : Value → Shared → Prop} {Q : Unit → Shared → Prop} {i : Nat} {nm : Str} {v : V} {v' : Value} (hnd : W.T.vars.Nodup) (hR : Rel W env ρ σ H s) (hi : W.T.vars[i]? = some nm)
    (hk : env.kindOf nm = some .local ∨ env.kindOf nm = some .cell) (hv : VR ρ v v')
    (h : ∀ s', Rel W env ρ (upd σ i v) H s' → Step (fun b => (env.kindOf nm = some .local ∧ b = env.locals) ∨ (env.kindOf nm = some .cell ∧ env.cells.lookup nm = some b)) ρ s ρ s' → Q () s') :
    wpAny (model W.prog W.w) A (storeName env nm v') Q E s := by
  rcases hk with hk | hk
  · obtain ⟨m, hm, r⟩ := hR.env.ns
    refine wpAny_storeName_local hk hm (fun h' hn' hs' => ?_) (by rw [hR.env.kind]; rfl)
    refine h _ ⟨hR.toRelH.aside hs'.extBut hR.env.loc hR.env.new (.inr (let ⟨o, es, ep, ho, hd, _⟩ := hn'; ⟨o, es, ep, ho, hd⟩)), ?_⟩ ?_
    · refine ⟨hR.env.kind, hR.env.glob, hR.env.blt, ⟨_, hn', fun j w nn e1 e2 e3 => ?_⟩, fun nn hnn => ?_, hR.env.inj, hR.env.loc, hR.env.new⟩
      · by_cases hj : j = i
        · subst hj
          rw [hi] at e2; cases e2
          simp only [upd, if_true] at e1; cases e1
          exact ⟨v', by simp, hv⟩
        · simp only [upd, if_neg hj] at e1
          obtain ⟨y, hy, hvy⟩ := r j w nn e1 e2 e3
          have : nn ≠ nm := fun q => hj (nodup_inj hnd (q ▸ e2) hi)
          exact ⟨y, by simp [this, hy], hvy⟩
      · obtain ⟨c, y, h1, h2, h3, h4, h5⟩ := hR.env.cell nn hnn
        have hcl : c ≠ env.locals := fun q => by
          obtain ⟨o, ho, hd⟩ := h2
          obtain ⟨o2, es, ep, ho2, hd2, _⟩ := hm
          rw [q, ho2] at ho; cases ho; rw [hd2] at hd; cases hd
        refine ⟨c, y, h1, h2.sameBut hs' hcl, h3, h4, fun j w e1 e2 => ?_⟩
        have : j ≠ i := fun q => by
          subst q; rw [hi] at e2; cases e2
          rcases hnn with q | q <;> (rw [hk] at q; cases q)
        simp only [upd, if_neg this] at e1
        exact h5 j w e1 e2
    · refine ⟨⟨[], by simp, by simp⟩, fun b o e _ ho => SameBut.kp hs' (fun q => ho (.inl ⟨hk, q⟩)) e, fun b o e => ?_⟩
      by_cases q : b = env.locals
      · subst q; obtain ⟨o', _, _, ho', _⟩ := hn'; exact ⟨o', ho'⟩
      · exact ⟨o, (hs'.2 b q).trans e⟩
  · obtain ⟨c, y, h1, h2, h3, h4, h5⟩ := hR.env.cell nm (.inl hk)
    refine wpAny_storeName_cell hR.env.kind hk h1 h2 fun h' hc' hs' => ?_
    refine h _ ⟨hR.toRelH.aside (tk := s.toks) hs'.extBut h3 h4 (.inl (hR.toRelH.noFr fun o es n e q => by obtain ⟨o', e', d'⟩ := h2; rw [e] at e'; cases e'; rw [q] at d'; cases d')), ?_⟩ ?_
    · have hcl : env.locals ≠ c := fun q => by
        obtain ⟨o, ho, hd⟩ := h2
        obtain ⟨m, ⟨o2, es, ep, ho2, hd2, _⟩, _⟩ := hR.env.ns
        rw [q, ho] at ho2; cases ho2; rw [hd2] at hd; cases hd
      refine ⟨hR.env.kind, hR.env.glob, hR.env.blt, ?_, fun nn hnn => ?_, hR.env.inj, hR.env.loc, hR.env.new⟩
      · obtain ⟨m, hm, r⟩ := hR.env.ns
        refine ⟨m, hm.sameBut hs' hcl, fun j w nn e1 e2 e3 => ?_⟩
        have : j ≠ i := fun q => by subst q; rw [hi] at e2; cases e2; rw [hk] at e3; cases e3
        simp only [upd, if_neg this] at e1
        exact r j w nn e1 e2 e3
      · obtain ⟨c2, y2, g1, g2, g3, g4, g5⟩ := hR.env.cell nn hnn
        by_cases hq : nn = nm
        · subst hq
          rw [h1] at g1; cases g1
          refine ⟨c, some v', h1, hc', g3, g4, fun j w e1 e2 => ?_⟩
          have hj : j = i := nodup_inj hnd e2 hi
          subst hj
          simp only [upd, if_true] at e1; cases e1
          exact ⟨v', rfl, hv⟩
        · have hcc : c2 ≠ c := fun q => hq (hR.env.inj nn nm c2 g1 (q ▸ h1))
          refine ⟨c2, y2, g1, g2.sameBut hs' hcc, g3, g4, fun j w e1 e2 => ?_⟩
          have : j ≠ i := fun q => by subst q; rw [hi] at e2; cases e2; exact hq rfl
          simp only [upd, if_neg this] at e1
          exact g5 j w e1 e2
    · refine ⟨⟨[], by simp, by simp⟩, fun b o e _ ho => SameBut.kp hs' (fun q => ho (.inr ⟨hk, by rw [q]; exact h1⟩)) e, fun b o e => ?_⟩
      by_cases q : b = c
      · subst q; obtain ⟨o', ho', _⟩ := hc'; exact ⟨o', ho'⟩
      · exact ⟨o, (hs'.2 b q).trans e⟩
end
end Mine

set_option autoImplicit false
set_option linter.unusedVariables false
namespace Mine
open PySem PyProof.Rows

/-! a comprehension's frame -/

theorem forIn_pure {α β : Type} {l : List α} {f : α → β → Sem (ForInStep β)} {g : α → β → β} (h : ∀ x ∈ l, ∀ b, f x b = pure (.yield (g x b))) : ∀ b, forIn l b f = (pure (l.foldl (fun b x => g x b) b) : Sem β) := by
  induction l with
  | nil => intro b; rw [List.forIn_nil]; rfl
  | cons x l ih =>
    intro b
    rw [List.forIn_cons, h x List.mem_cons_self b]
    show forIn l (g x b) f = _
    rw [ih (fun y hy => h y (List.mem_cons_of_mem _ hy))]
    rfl

noncomputable def cloF (env : Env) (x : Str × NameKind) (b : List (Str × Addr)) : List (Str × Addr) := if x.2 == .free then (x.1, (env.cells.lookup x.1).getD 0) :: b else b
noncomputable def clo (env : Env) (names : List (Str × NameKind)) (acc : List (Str × Addr)) : List (Str × Addr) := names.foldl (fun b x => cloF env x b) acc

theorem closureFor_clo {env : Env} {scope : Scope} (h : ∀ x ∈ scope.names, x.2 = .free → ∃ c, env.cells.lookup x.1 = some c) : closureFor scope env = pure (clo env scope.names []) := by
  simp only [closureFor]
  rw [forIn_pure (g := fun x b => cloF env x b) (fun x hx b => ?_)]
  · rfl
  · obtain ⟨nm, k⟩ := x
    unfold cloF
    by_cases hk : k = .free
    · subst hk
      obtain ⟨c, hc⟩ := h (nm, .free) hx rfl
      simp only [cellOf, hc, beq_self_eq_true, if_true]
      rfl
    · have : (k == NameKind.free) = false := by simpa using hk
      simp only [this, Bool.false_eq_true, if_false]

theorem clo_lookup (env : Env) : ∀ (names : List (Str × NameKind)) (acc : List (Str × Addr)) (nm : Str), ((nm, NameKind.free) ∈ names → (clo env names acc).lookup nm = some ((env.cells.lookup nm).getD 0)) ∧ ((nm, NameKind.free) ∉ names → (clo env names acc).lookup nm = acc.lookup nm)
  | [], acc, nm => by simp [clo]
  | (m, k) :: r, acc, nm => by
    have ih := clo_lookup env r (cloF env (m, k) acc) nm
    have e : clo env ((m, k) :: r) acc = clo env r (cloF env (m, k) acc) := rfl
    rw [e]
    by_cases hr : (nm, NameKind.free) ∈ r
    · exact ⟨fun _ => ih.1 hr, fun h => absurd (List.mem_cons_of_mem _ hr) h⟩
    · rw [ih.2 hr]
      unfold cloF
      by_cases hk : k = .free
      · subst hk
        simp only [beq_self_eq_true, if_true, List.lookup_cons]
        by_cases hm : nm = m
        · subst hm; simp
        · have : (nm == m) = false := by simpa using hm
          simp [this, hr, hm]
      · have : (k == NameKind.free) = false := by simpa using hk
        simp only [this, Bool.false_eq_true, if_false]
        refine ⟨fun h => ?_, fun _ => trivial⟩
        rcases List.mem_cons.mp h with q | q
        · cases q; exact absurd rfl hk
        · exact absurd q hr

structure CellsAt (m : Nat) (names : List (Str × NameKind)) (acc cs : List (Str × Addr)) (h : Heap) : Prop where
  own : ∀ nm, (nm, NameKind.cell) ∈ names → ∃ c : Nat, cs.lookup nm = some c ∧ m ≤ c ∧ h.IsCell c none
  oth : ∀ nm, (nm, NameKind.cell) ∉ names → cs.lookup nm = acc.lookup nm
  inj : ∀ nm nm' (c : Nat), m ≤ c → cs.lookup nm = some c → cs.lookup nm' = some c → nm = nm'

theorem cellsAt : ∀ (names : List (Str × NameKind)) (h : Heap) (acc : List (Str × Addr)), (∀ nm (c : Nat), acc.lookup nm = some c → c < h.objs.size) →
    CellsAt h.objs.size names acc (cellsFrom h.objs.size names acc) (pushCells h names) ∧ ∀ nm (c : Nat), (cellsFrom h.objs.size names acc).lookup nm = some c → c < h.objs.size → acc.lookup nm = some c
  | [], h, acc, ha => ⟨⟨fun _ hm => (nomatch hm), fun _ _ => rfl, fun nm nm' c hc e1 _ => absurd (ha nm c e1) (Nat.not_lt.mpr hc)⟩, fun _ _ e _ => e⟩
  | (m, k) :: r, h, acc, ha => by
    by_cases hk : k = .cell
    · subst hk
      have e1 : cellsFrom h.objs.size ((m, NameKind.cell) :: r) acc = cellsFrom (h.objs.size + 1) r ((m, h.objs.size) :: acc) := by simp [cellsFrom]
      have e2 : pushCells h ((m, NameKind.cell) :: r) = pushCells (h.push { cls := .type "cell", data := .cell none }) r := by simp [pushCells]
      rw [e1, e2]
      have hs : (h.push { cls := .type "cell", data := .cell none }).objs.size = h.objs.size + 1 := Heap.size_push ..
      have ih := cellsAt r (h.push { cls := .type "cell", data := .cell none }) ((m, h.objs.size) :: acc) (fun nm c e => by
        rw [hs]
        rw [List.lookup_cons] at e
        cases hb : nm == m with
        | true => rw [hb] at e; have e' : h.objs.size = c := Option.some.inj e; omega
        | false => rw [hb] at e; have := ha nm c e; omega)
      rw [hs] at ih
      obtain ⟨⟨i1, i2, i3⟩, i4⟩ := ih
      have mine : (h.push { cls := .type "cell", data := .cell none }).IsCell h.objs.size none := ⟨_, Heap.get?_push_size _ rfl, rfl⟩
      refine ⟨⟨fun nm hm => ?_, fun nm hm => ?_, fun nm nm' c hc q1 q2 => ?_⟩, fun nm c q hc => ?_⟩
      · by_cases hr : (nm, NameKind.cell) ∈ r
        · obtain ⟨c, a1, a2, a3⟩ := i1 nm hr
          exact ⟨c, a1, by omega, a3⟩
        · have hnm : nm = m := by
            rcases List.mem_cons.mp hm with q | q
            · cases q; rfl
            · exact absurd q hr
          subst hnm
          refine ⟨h.objs.size, by rw [i2 nm hr]; simp, Nat.le_refl _, mine.keeps (pushCells_keeps r _)⟩
      · have hr : (nm, NameKind.cell) ∉ r := fun q => hm (List.mem_cons_of_mem _ q)
        have hne : (nm == m) = false := by simp; rintro rfl; exact hm List.mem_cons_self
        rw [i2 nm hr, List.lookup_cons, hne]
      · by_cases hcm : h.objs.size + 1 ≤ c
        · exact i3 nm nm' c hcm q1 q2
        · have hc' : c = h.objs.size := by omega
          subst hc'
          have b1 := i4 nm _ q1 (Nat.lt_succ_self _)
          have b2 := i4 nm' _ q2 (Nat.lt_succ_self _)
          have key : ∀ x, List.lookup x ((m, h.objs.size) :: acc) = some h.objs.size → x = m := fun x e => by
            rw [List.lookup_cons] at e
            cases hb : x == m with
            | true => exact beq_iff_eq.mp hb
            | false => rw [hb] at e; exact absurd (ha x _ e) (Nat.lt_irrefl _)
          rw [key nm b1, key nm' b2]
      · have b1 := i4 nm c q (by omega)
        rw [List.lookup_cons] at b1
        cases hb : nm == m with
        | true => rw [hb] at b1; have e' : h.objs.size = c := Option.some.inj b1; omega
        | false => rw [hb] at b1; exact b1
    · have hk' : (k == NameKind.cell) = false := by simpa using hk
      have e1 : cellsFrom h.objs.size ((m, k) :: r) acc = cellsFrom h.objs.size r acc := by simp [cellsFrom, hk']
      have e2 : pushCells h ((m, k) :: r) = pushCells h r := by simp [pushCells, hk']
      rw [e1, e2]
      obtain ⟨⟨i1, i2, i3⟩, i4⟩ := cellsAt r h acc ha
      have hmem : ∀ nm, (nm, NameKind.cell) ∈ (m, k) :: r ↔ (nm, NameKind.cell) ∈ r := fun nm => by
        simp only [List.mem_cons, Prod.mk.injEq]
        constructor
        · rintro (⟨_, q⟩ | q)
          · exact absurd q.symm hk
          · exact q
        · exact .inr
      exact ⟨⟨fun nm hm => i1 nm ((hmem nm).mp hm), fun nm hm => i2 nm fun q => hm ((hmem nm).mpr q), i3⟩, i4⟩

theorem newEnv_comp {M : Model} {A : Around} {E : Value → Shared → Prop} {s : Shared} {scope : Scope} {globals : Addr} {closure : List (Str × Addr)} {qual : Str} {outer : Env} {Q : Env → Shared → Prop}
    (hQ : Q (newEnv scope s.heap.objs.size globals (cellsFrom (s.heap.objs.size + 1) scope.names closure) qual none .none (some outer) builtinsNs)
      { s with heap := pushCells (s.heap.push { cls := .type "dict", data := .dict #[] }) scope.names }) :
    wpAny M A (newFunctionEnv scope globals closure [] qual none .none (some outer)) Q E s := by
  simp only [newFunctionEnv, Option.isSome_some, if_true]
  refine wpAny_bind (wpAny_alloc ?_)
  refine wpAny_bind (wpAny_layCells _ (fun name kind cells => by cases hkc : kind == NameKind.cell <;> simp [hkc]) _ _ _ _ ?_)
  rw [show ({ s with heap := s.heap.push { cls := .type "dict", data := .dict #[] } } : Shared).heap.objs.size = s.heap.objs.size + 1 from Heap.size_push ..]
  exact wpAny_bind (wpAny_pure (wpAny_pure hQ))

/-- kinds in a comprehension's frame -/
theorem relabel_lookup {env : Env} {scope : Scope} (nm : Str) : (relabel scope env).names.lookup nm = (scope.names.lookup nm).map fun k => if (k == .free && env.scope.kind == .function && env.kindOf nm == some .cell) then .cell else k := by
  obtain ⟨sk, names, g1, g2, mo⟩ := scope
  simp only [relabel]
  induction names with
  | nil => rfl
  | cons x r ih =>
    obtain ⟨m, k⟩ := x
    rw [List.map_cons]
    by_cases hm : nm = m
    · subst hm
      by_cases hc : (k == NameKind.free && env.scope.kind == .function && env.kindOf nm == some .cell) = true
      · simp only [hc, if_true, List.lookup_cons, beq_self_eq_true, Option.map_some]
      · simp only [hc, Bool.false_eq_true, if_false, List.lookup_cons, beq_self_eq_true, Option.map_some]
    · have hb : (nm == m) = false := by simpa using hm
      by_cases hc : (k == NameKind.free && env.scope.kind == .function && env.kindOf m == some .cell) = true
      · simp only [hc, if_true, List.lookup_cons, hb]; exact ih
      · simp only [hc, Bool.false_eq_true, if_false, List.lookup_cons, hb]; exact ih
end Mine

set_option autoImplicit false
set_option linter.unusedVariables false
namespace Mine
open PySem PyProof.Rows

section
variable {W : Wd} {n : Lv} {env : Env} {C : Cx}

noncomputable def cenvOf (scope : Scope) (env : Env) (L : Addr) : Env :=
  { newEnv scope L env.globals (cellsFrom (L + 1) scope.names (clo env scope.names [])) env.qual none .none (some env) builtinsNs with scope := relabel scope env }

structure CompOk (T : Tab) (sc outer : Scope) (tgt : Str) : Prop where
  kind : sc.kind = .function
  loc : ∀ x ∈ sc.names, x.2 = .local → sc.names.lookup x.1 = some .local
  fre : ∀ x ∈ sc.names, x.2 = .free → (outer.names.lookup x.1 = some .cell ∨ outer.names.lookup x.1 = some .free) ∧ sc.names.lookup x.1 = some .free
  cel : ∀ x ∈ sc.names, x.2 = .cell → sc.names.lookup x.1 = some .cell
  own : ∀ x ∈ sc.names, (x.2 = .local ∨ x.2 = .cell) → x.1 = tgt ∨ x.1 ∉ T.vars
  tgt : sc.names.lookup tgt = some .local ∨ sc.names.lookup tgt = some .cell

theorem cenv_kind {scope : Scope} {L : Addr} (nm : Str) : (cenvOf scope env L).kindOf nm = (scope.names.lookup nm).map fun k => if (k == .free && env.scope.kind == .function && env.kindOf nm == some .cell) then .cell else k := relabel_lookup nm
theorem cenv_cell {scope : Scope} {L : Addr} {nm : Str} (h : (cenvOf scope env L).kindOf nm = some .cell ∨ (cenvOf scope env L).kindOf nm = some .free) : scope.names.lookup nm = some .cell ∨ scope.names.lookup nm = some .free := by
  rw [cenv_kind] at h
  cases hl : scope.names.lookup nm with
  | none => simp [hl] at h
  | some k =>
    rw [hl] at h
    simp only [Option.map_some, Option.some.injEq] at h
    split at h
    · rename_i hc; simp only [Bool.and_eq_true, beq_iff_eq] at hc; exact .inr (by rw [hc.1.1])
    · rcases h with h | h
      · exact .inl (by rw [h])
      · exact .inr (by rw [h])
theorem cenv_local {scope : Scope} {L : Addr} {nm : Str} (h : (cenvOf scope env L).kindOf nm = some .local) : scope.names.lookup nm = some .local := by
  rw [cenv_kind] at h
  cases hl : scope.names.lookup nm with
  | none => simp [hl] at h
  | some k =>
    rw [hl] at h
    simp only [Option.map_some, Option.some.injEq] at h
    split at h
    · cases h
    · rw [h]

theorem cenv_scOk {scope : Scope} {L : Addr} : ScOk (cenvOf scope env L) scope := by
  refine ⟨fun nm h => ?_, fun nm h => ?_, fun nm h => ?_⟩
  · rw [cenv_kind, h]; rfl
  · rw [cenv_kind]
    rcases h with h | h
    · rw [h]; exact .inl rfl
    · rw [h]; simp only [Option.map_some, Option.some.injEq]
      split
      · exact .inl rfl
      · exact .inr rfl
  · rw [cenv_kind, h]; rfl

/-- the frame of a comprehension, made anew -/
theorem cenv_rel {ρ : List Addr} {σ : Sto} {H : H} {s : Shared} {scope outer : Scope} {tgt : Str} {v : Nat} (hnd : W.T.vars.Nodup) (hR : Rel W env ρ σ H s) (hsc : ScOk env outer) (ok : CompOk W.T scope outer tgt) (hv : W.T.vars[v]? = some tgt) :
    Rel W (cenvOf scope env s.heap.objs.size) ρ (del σ v) H { s with heap := pushCells (s.heap.push { cls := .type "dict", data := .dict #[] }) scope.names } ∧
    (∀ b o, s.heap.get? b = some o → (pushCells (s.heap.push { cls := .type "dict", data := .dict #[] }) scope.names).get? b = some o) ∧
    (∀ c, ((cenvOf scope env s.heap.objs.size).kindOf tgt = some .local ∧ c = (cenvOf scope env s.heap.objs.size).locals) ∨ ((cenvOf scope env s.heap.objs.size).kindOf tgt = some .cell ∧ (cenvOf scope env s.heap.objs.size).cells.lookup tgt = some c) → s.heap.objs.size ≤ c) ∧
    (∃ m, (pushCells (s.heap.push { cls := .type "dict", data := .dict #[] }) scope.names).Ns s.heap.objs.size m) := by
  have keep : ∀ b o, s.heap.get? b = some o → (pushCells (s.heap.push { cls := .type "dict", data := .dict #[] }) scope.names).get? b = some o := fun b o e => pushCells_keeps _ _ b o (Heap.get?_push_of_some _ e)
  have hsz : (s.heap.push { cls := .type "dict", data := .dict #[] }).objs.size = s.heap.objs.size + 1 := Heap.size_push ..
  have hns : (pushCells (s.heap.push { cls := .type "dict", data := .dict #[] }) scope.names).Ns s.heap.objs.size fun _ => none := (Heap.Ns.new s.heap (.type "dict")).keeps (pushCells_keeps _ _)
  -- names that are free in the comprehension lie in cells of the frame around
  have fre : ∀ nm, (nm, NameKind.free) ∈ scope.names → ∃ c x, env.cells.lookup nm = some c ∧ s.heap.IsCell c x ∧ c ∉ ρ ∧ W.h₀.get? c = none ∧ ∀ i w, σ i = some w → W.T.vars[i]? = some nm → ∃ y, x = some y ∧ VR ρ w y := fun nm hm =>
    hR.env.cell nm (hsc.cel nm (ok.fre _ hm rfl).1)
  have clt : ∀ nm (c : Nat), (clo env scope.names []).lookup nm = some c → c < s.heap.objs.size + 1 := fun nm c e => by
    by_cases hm : (nm, NameKind.free) ∈ scope.names
    · rw [(clo_lookup env scope.names [] nm).1 hm] at e
      obtain ⟨c', x, h1, h2, _⟩ := fre nm hm
      rw [h1] at e
      have e' : c' = c := Option.some.inj e
      have := h2.lt
      have q : c < s.heap.objs.size := e' ▸ this
      omega
    · rw [(clo_lookup env scope.names [] nm).2 hm] at e; simp at e
  have cl := cellsAt scope.names (s.heap.push { cls := .type "dict", data := .dict #[] }) (clo env scope.names []) (by rw [hsz]; exact clt)
  rw [hsz] at cl
  obtain ⟨⟨c1, c2, c3⟩, c4⟩ := cl
  have fresh := hR.fresh (Heap.get?_none_of_le (Nat.le_refl s.heap.objs.size))
  have freshAt : ∀ c : Nat, s.heap.objs.size ≤ c → c ∉ ρ ∧ W.h₀.get? c = none := fun c hc => hR.toRelH.fresh (Heap.get?_none_of_le hc)
  -- where a name's cell lies
  have at_ : ∀ nm, (cenvOf scope env s.heap.objs.size).cells.lookup nm = (cellsFrom (s.heap.objs.size + 1) scope.names (clo env scope.names [])).lookup nm := fun _ => rfl
  have ownV : ∀ nm i w, (scope.names.lookup nm = some .local ∨ scope.names.lookup nm = some .cell) → del σ v i = some w → W.T.vars[i]? = some nm → False := fun nm i w hk e1 e2 => by
    have hm : nm = tgt ∨ nm ∉ W.T.vars := by
      rcases hk with hk | hk
      · exact ok.own _ (mem_of_lookup hk) (.inl rfl)
      · exact ok.own _ (mem_of_lookup hk) (.inr rfl)
    rcases hm with rfl | hm
    · have : i = v := nodup_inj hnd e2 hv
      subst this
      simp [del] at e1
    · exact hm (List.mem_of_getElem? e2)
  have freeCell : ∀ nm, scope.names.lookup nm = some .free → (cellsFrom (s.heap.objs.size + 1) scope.names (clo env scope.names [])).lookup nm = env.cells.lookup nm := fun nm hk => by
    have hm := mem_of_lookup hk
    have hnc : (nm, NameKind.cell) ∉ scope.names := fun q => by have := ok.cel _ q rfl; simp only at this; rw [hk] at this; cases this
    rw [c2 nm hnc, (clo_lookup env scope.names [] nm).1 hm]
    obtain ⟨c, x, h1, _⟩ := fre nm hm
    rw [h1]; rfl
  refine ⟨⟨hR.toRelH.grow (tk := s.toks) keep, ?_⟩, keep, ?_, _, hns⟩
  · refine ⟨ok.kind, hR.env.glob, hR.env.blt, ⟨_, hns, fun i w nm e1 e2 e3 => (ownV nm i w (.inl (cenv_local e3)) e1 e2).elim⟩, fun nm hk => ?_, fun nm nm' c e1 e2 => ?_, fresh.1, fresh.2.1⟩
    · rcases cenv_cell hk with hk | hk
      · obtain ⟨c, a1, a2, a3⟩ := c1 nm (mem_of_lookup hk)
        have f := freshAt c (by omega)
        exact ⟨c, none, a1, a3, f.1, f.2, fun i w e1 e2 => (ownV nm i w (.inr hk) e1 e2).elim⟩
      · obtain ⟨c, x, h1, h2, h3, h4, h5⟩ := fre nm (mem_of_lookup hk)
        refine ⟨c, x, by rw [at_, freeCell nm hk]; exact h1, h2.keeps keep, h3, h4, fun i w e1 e2 => h5 i w ?_ e2⟩
        unfold del at e1
        split at e1
        · cases e1
        · exact e1
    · rw [at_] at e1 e2
      by_cases hc : s.heap.objs.size + 1 ≤ c
      · exact c3 nm nm' c hc e1 e2
      · have l1 := c4 nm c e1 (Nat.lt_of_not_le hc)
        have l2 := c4 nm' c e2 (Nat.lt_of_not_le hc)
        have key : ∀ x, (clo env scope.names []).lookup x = some c → env.cells.lookup x = some c := fun x e => by
          by_cases hm : (x, NameKind.free) ∈ scope.names
          · rw [(clo_lookup env scope.names [] x).1 hm] at e
            obtain ⟨c', y, h1, _⟩ := fre x hm
            rw [h1] at e ⊢; exact e
          · rw [(clo_lookup env scope.names [] x).2 hm] at e; simp at e
        exact hR.env.inj nm nm' c (key nm l1) (key nm' l2)
  · rintro c (⟨_, rfl⟩ | ⟨hk, e⟩)
    · exact Nat.le_refl _
    · rw [at_] at e
      rcases ok.tgt with ht | ht
      · rw [cenv_kind, ht] at hk; simp at hk
      · obtain ⟨c', a1, a2, _⟩ := c1 tgt (mem_of_lookup ht)
        rw [a1] at e; cases e; omega
end
end Mine

set_option autoImplicit false
set_option linter.unusedVariables false
namespace Mine
open PySem PyProof.Rows

section
variable {W : Wd} {n : Lv} {env : Env} {C : Cx}

theorem compR_exc {src : Src} {tests : V → H → R Bool} {elt : V → H → R V} : ∀ (vs : List V) (h : H) (c : Nat) (h' : H), compR src tests elt vs h ≠ .exc c h'
  | [], h, c, h' => by simp only [compR]; split <;> simp
  | v :: vs, h, c, h' => by
    simp only [compR]
    split
    · split
      · split
        · split <;> simp
        · simp
      · exact compR_exc vs _ c h'
      · simp
    · simp

theorem tests_sound {xs : List X} {es : List Expr} (h : SimTAll W n env C xs es) : ∀ A ρ σ H s (Q : Bool → Shared → Prop) E, AOk W.fr A n → Rel W env ρ σ H s → Post W env ρ σ s BR (testsR (evT C xs σ) H) Q E →
    wpAny (model W.prog W.w) A (forIn es true fun c r => if r = true then do let ok ← isTrue c env (eval c env); pure (ForInStep.yield ok) else pure (ForInStep.yield r)) Q E s := by
  have skip : ∀ (es : List Expr) A (Q : Bool → Shared → Prop) E s, Q false s → wpAny (model W.prog W.w) A (forIn es false fun c r => if r = true then do let ok ← isTrue c env (eval c env); pure (ForInStep.yield ok) else pure (ForInStep.yield r)) Q E s := by
    intro es
    induction es with
    | nil => intro A Q E s hq; rw [List.forIn_nil]; exact wpAny_pure hq
    | cons e es ih =>
      intro A Q E s hq
      rw [List.forIn_cons]
      simp only [Bool.false_eq_true, if_false]
      exact wpAny_bind (wpAny_pure (ih A Q E s hq))
  induction h with
  | nil => intro A ρ σ H s Q E hA hR hP; rw [List.forIn_nil]; exact wpAny_pure (post_same hR hP rfl)
  | @cons x e xs es hx _ ih =>
    intro A ρ σ H s Q E hA hR hP
    rw [List.forIn_cons]
    simp only [if_true]
    refine wpAny_bind (wpAny_bind (hx A ρ σ H s _ _ hA hR ?_))
    simp only [evT, testsR] at hP
    unfold evTr
    cases hr : ev C x σ H with
    | stuck => rw [hr] at hP; exact hP.elim
    | exc c h => rw [hr] at hP; exact hP.elim
    | ok v H1 =>
      rw [hr] at hP
      simp only [R.bind]
      simp only at hP
      cases ht : truthV v with
      | none => rw [ht] at hP; exact hP.elim
      | some t =>
        rw [ht] at hP
        intro b ρ1 s1 st1 r1 hb
        have hb' : t = b := hb
        subst hb'
        refine wpAny_pure ?_
        cases t with
        | true =>
          refine ih A ρ1 σ H1 s1 Q E hA r1 ?_
          revert hP
          show Post W env ρ σ s BR (testsR (evT C xs σ) H1) Q E → _
          generalize testsR (evT C xs σ) H1 = q
          cases q with
          | stuck => exact id
          | exc c h => exact fun hP e ρ2 s2 st2 r2 x2 => hP e ρ2 s2 (st1.trans st2) r2 (x2.back st1)
          | ok c h => exact fun hP e ρ2 s2 st2 => hP e ρ2 s2 (st1.trans st2)
        | false => exact skip es A Q E s1 (hP false ρ1 s1 st1 r1 rfl)

theorem Step.ext_ {own : Addr → Prop} {ρ ρ' : List Addr} {s₀ s : Shared} {b : Addr} {h' : Heap} {tk : Nat} (x : Step own ρ s₀ ρ' s) (he : Heap.ExtBut b s.heap h') (hb : s₀.heap.get? b = none) : Step own ρ s₀ ρ' { s with heap := h', toks := tk } := by
  refine ⟨x.ext, fun c o e hc hn => ?_, fun c o e => ?_⟩
  · obtain ⟨o', e', k⟩ := x.keep c o e hc hn
    exact ⟨o', he c o' (fun q => by rw [q, hb] at e; cases e) e', k⟩
  · obtain ⟨o', e'⟩ := x.live c o e
    exact ⟨o', he c o' (fun q => by rw [q, hb] at e; cases e) e'⟩
theorem ItSt.step {own : Addr → Prop} {ρ ρ' : List Addr} {s s' : Shared} {src : Src} {it : Addr} {j : Nat} (x : ItSt ρ src s.heap it j) (st : Step own ρ s ρ' s') (h1 : it ∉ ρ) (h2 : ¬ own it) : ItSt ρ' src s'.heap it j := by
  obtain ⟨δ, rfl, _⟩ := st.ext
  exact (x.keep fun o e => st.keep it o e h1 h2).mono
theorem plain_step {own : Addr → Prop} {ρ ρ' : List Addr} {s s' : Shared} {D : Addr} {ys : Array Value} (x : s.heap.PlainList D ys) (st : Step own ρ s ρ' s') (h1 : D ∉ ρ) (h2 : ¬ own D) : s'.heap.PlainList D ys := by
  obtain ⟨m, e⟩ := x
  obtain ⟨o', e', k⟩ := st.keep D _ e h1 h2
  exact ⟨m, by rw [e', k.eq (by simp)]⟩

/-- the turns of a comprehension -/
theorem comp_loop {A : Around} {ρ : List Addr} {σ : Sto} {s₀ : Shared} {RR : Result → Shared → Prop} {src : Src} {it D : Addr} {v : Nat} {tgt : Str} {px pos : Pos} {iter elt : Expr} {ifs : List Expr} {scope : Scope} {xelt : X} {xifs : List X} {vs : List V} {H2 : H}
    (hA : AOk W.fr A n) (hAh : A.handled = none) (hnd : W.T.vars.Nodup) (hv : W.T.vars[v]? = some tgt) (hk : env.kindOf tgt = some .local ∨ env.kindOf tgt = some .cell)
    (helt : Sim W n env VR (eval elt env) (ev C xelt)) (hifs : SimTAll W n env C xifs ifs) (hsz : src.items.length ≤ big)
    (hown : ∀ b, ((env.kindOf tgt = some .local ∧ b = env.locals) ∨ (env.kindOf tgt = some .cell ∧ env.cells.lookup tgt = some b)) → s₀.heap.get? b = none)
    (hD0 : s₀.heap.get? D = none) (hit0 : s₀.heap.get? it = none) (hDit : D ≠ it) (hDn : W.h₀.get? D = none) (hitn : W.h₀.get? it = none)
    (hRR : ∀ ρ' s' ys, Step no ρ s₀ ρ' s' → Rel W env ρ' (del σ v) H2 s' → s'.heap.PlainList D ys → VRs ρ' vs ys.toList → D ∉ ρ' → RR (.ok .next) s') :
    ∀ (k : Nat) (s : Shared), (∃ rest done vsD vsR ρ' H' ys, k = rest.length + 1 ∧ src.items = done ++ rest ∧ vs = vsD ++ vsR ∧ vsD.length ≤ done.length ∧ compR src (fun x h2 => testsR (evT C xifs (upd σ v x)) h2) (fun x h2 => ev C xelt (upd σ v x) h2) rest H' = .ok vsR H2 ∧
      Step no ρ s₀ ρ' s ∧ Rel W env ρ' (del σ v) H' s ∧ ItSt ρ' src s.heap it done.length ∧ s.heap.PlainList D ys ∧ VRs ρ' vsD ys.toList ∧ D ∉ ρ' ∧ it ∉ ρ') →
    codeAny (model W.prog W.w) A (.compLoop (.ListComp elt [⟨.Name tgt px, iter, ifs, 0⟩] scope pos) 0 (.ref it) (.ref D) env) RR s := by
  intro k s hI
  refine codeAny_compLoop_tests (fun k s => ∃ rest done vsD vsR ρ' H' ys, k = rest.length + 1 ∧ src.items = done ++ rest ∧ vs = vsD ++ vsR ∧ vsD.length ≤ done.length ∧ compR src (fun x h2 => testsR (evT C xifs (upd σ v x)) h2) (fun x h2 => ev C xelt (upd σ v x) h2) rest H' = .ok vsR H2 ∧
      Step no ρ s₀ ρ' s ∧ Rel W env ρ' (del σ v) H' s ∧ ItSt ρ' src s.heap it done.length ∧ s.heap.PlainList D ys ∧ VRs ρ' vsD ys.toList ∧ D ∉ ρ' ∧ it ∉ ρ') ?_ k hI
  clear hI s k
  rintro k s ⟨rest, done, vsD, vsR, ρ', H', ys, rfl, hsrc, hvs, hle, hC, st, hR, hIt, hPl, hys, hDρ, hiρ⟩
  obtain ⟨oi, hoi, hfi⟩ := hIt.alive
  have hni := hR.env.notFields hoi (.inl hfi)
  cases rest with
  | nil =>
    simp only [compR] at hC
    split at hC
    · rename_i hst
      cases hC
      have hl : done.length = src.items.length := by rw [hsrc]; simp
      rw [hl] at hIt
      refine next_end hAh hR.toRelH hst hIt fun h' tk he => ?_
      have hR' : Rel W env ρ' (del σ v) H2 { s with heap := h', toks := tk } := ⟨hR.toRelH.aside he hiρ hitn (.inl (hR.toRelH.noFr_it hIt)), hR.env.aside he hni.1 hni.2⟩
      refine hRR ρ' _ ys (st.ext_ he hit0) hR' (hPl.extBut he hDit) ?_ hDρ
      rw [hvs, List.append_nil]; exact hys
    · cases hC
  | cons x rest =>
    simp only [compR] at hC
    split at hC
    · rename_i hst
      have hx : src.items[done.length]? = some x := by rw [hsrc]; simp
      refine next_item hR.toRelH hst hIt hx fun x' h1 tk1 hxx hIt1 hs1 => ?_
      have R1 : Rel W env ρ' (del σ v) H' { s with heap := h1, toks := tk1 } := ⟨hR.toRelH.aside hs1.extBut hiρ hitn (.inl (hR.toRelH.noFr_it hIt)), hR.env.aside hs1.extBut hni.1 hni.2⟩
      have st1 : Step no ρ s₀ ρ' { s with heap := h1, toks := tk1 } := st.ext_ hs1.extBut hit0
      have hPl1 : h1.PlainList D ys := hPl.extBut hs1.extBut hDit
      refine wpAny_assign_Name (store_sound hnd R1 hv hk hxx fun s2 R2 st2 => ?_)
      rw [upd_del] at R2
      obtain ⟨mD, eD⟩ := id hPl1
      obtain ⟨oI, eI, fI⟩ := hIt1.alive
      have nl := R1.env.notFields eD (.inr ⟨_, _, rfl⟩)
      have ni := R1.env.notFields eI (.inl fI)
      have noD : ¬ ((env.kindOf tgt = some .local ∧ D = env.locals) ∨ (env.kindOf tgt = some .cell ∧ env.cells.lookup tgt = some D)) := by
        rintro (⟨_, q⟩ | ⟨q1, q2⟩)
        · exact nl.1 q.symm
        · exact nl.2 tgt D (.inl q1) q2 rfl
      have noI : ¬ ((env.kindOf tgt = some .local ∧ it = env.locals) ∨ (env.kindOf tgt = some .cell ∧ env.cells.lookup tgt = some it)) := by
        rintro (⟨_, q⟩ | ⟨q1, q2⟩)
        · exact ni.1 q.symm
        · exact ni.2 tgt it (.inl q1) q2 rfl
      have hPl2 := plain_step hPl1 st2 hDρ noD
      have hIt2 := ItSt.step (s := { s with heap := h1, toks := tk1 }) hIt1 st2 hiρ noI
      have st2' : Step no ρ s₀ ρ' s2 := st1.then st2 hown
      have alD2 : ∃ o, s2.heap.get? D = some o := let ⟨m, e⟩ := hPl2; ⟨_, e⟩
      have alI2 : ∃ o, s2.heap.get? it = some o := let ⟨o, e, _⟩ := hIt2.alive; ⟨o, e⟩
      refine tests_sound hifs A ρ' (upd σ v x) H' s2 _ _ hA R2 ?_
      cases hT : testsR (evT C xifs (upd σ v x)) H' with
      | stuck => rw [hT] at hC; cases hC
      | exc c h => rw [hT] at hC; cases hC
      | ok t H1 =>
        rw [hT] at hC
        intro t' ρ2 s3 st3 R3 ht
        have ht' : t = t' := ht
        subst ht'
        have hDρ2 : D ∉ ρ2 := let ⟨o, e⟩ := alD2; st3.fresh e hDρ
        have hiρ2 : it ∉ ρ2 := let ⟨o, e⟩ := alI2; st3.fresh e hiρ
        have hPl3 := plain_step hPl2 st3 hDρ (fun q => q)
        have hIt3 := hIt2.step st3 hiρ (fun q => q)
        have st3' : Step no ρ s₀ ρ2 s3 := st2'.trans st3
        have wk : ∀ i w, del σ v i = some w → upd σ v x i = some w := fun i w e => by
          unfold del at e; split at e
          · cases e
          · rename_i hne; unfold upd; rw [if_neg hne]; exact e
        cases t with
        | false =>
          simp only at hC
          rw [if_neg (by decide)]
          refine ⟨rest.length + 1, by simp, rest, done ++ [x], vsD, vsR, ρ2, H1, ys, rfl, by rw [hsrc]; simp, hvs, by simp; omega, hC, st3', ⟨R3.toRelH, R3.env.weaken wk⟩, ?_, hPl3, st3.vrs hys, hDρ2, hiρ2⟩
          simpa using hIt3
        | true =>
          simp only at hC
          rw [if_pos rfl]
          refine helt A ρ2 (upd σ v x) H1 s3 _ _ hA R3 ?_
          cases hE : ev C xelt (upd σ v x) H1 with
          | stuck => rw [hE] at hC; cases hC
          | exc c h => rw [hE] at hC; cases hC
          | ok y H1' =>
            rw [hE] at hC
            simp only at hC
            cases hC' : compR src (fun x h2 => testsR (evT C xifs (upd σ v x)) h2) (fun x h2 => ev C xelt (upd σ v x) h2) rest H1' with
            | stuck => rw [hC'] at hC; cases hC
            | exc c h => rw [hC'] at hC; cases hC
            | ok vsR' H3 =>
              rw [hC'] at hC
              cases hC
              intro y' ρ3 s4 st4 R4 hy
              have alD3 : ∃ o, s3.heap.get? D = some o := let ⟨m, e⟩ := hPl3; ⟨_, e⟩
              have alI3 : ∃ o, s3.heap.get? it = some o := let ⟨o, e, _⟩ := hIt3.alive; ⟨o, e⟩
              have hDρ3 : D ∉ ρ3 := let ⟨o, e⟩ := alD3; st4.fresh e hDρ2
              have hiρ3 : it ∉ ρ3 := let ⟨o, e⟩ := alI3; st4.fresh e hiρ2
              have hPl4 := plain_step hPl3 st4 hDρ2 (fun q => q)
              have hIt4 := hIt3.step st4 hiρ2 (fun q => q)
              have hlen := hys.length
              simp only [Array.length_toList] at hlen
              have hdl : done.length ≤ src.items.length := by rw [hsrc]; simp
              have hb := big_le
              refine wpAny_list_append_plain hPl4 (fun h5 hl5 hs5 => ?_) (by omega)
              obtain ⟨mE, eE⟩ := id hPl4
              have nD := R4.env.notFields eE (.inr ⟨_, _, rfl⟩)
              refine ⟨rest.length + 1, by simp, rest, done ++ [x], vsD ++ [y], vsR', ρ3, H1', ys.push y', rfl, by rw [hsrc]; simp, by rw [hvs]; simp, by simp; omega, hC',
                (st3'.trans st4).ext_ (tk := s4.toks) hs5.extBut hD0, ⟨R4.toRelH.aside (tk := s4.toks) hs5.extBut hDρ3 hDn (.inl (R4.toRelH.noFr_list hPl4)), (R4.env.aside hs5.extBut nD.1 nD.2).weaken wk⟩, ?_, hl5, ?_, hDρ3, hiρ3⟩
              · have := hIt4.keep (h' := h5) fun o e => ⟨o, (hs5.2 it (Ne.symm hDit)).trans e, .refl o⟩
                simpa using this
              · rw [Array.toList_push]
                exact ((st3.trans st4).vrs hys).snoc hy
    · cases hC
end
end Mine

set_option autoImplicit false
set_option linter.unusedVariables false
namespace Mine
open PySem PyProof.Rows

noncomputable def PostI (W : Wd) (env : Env) (ρ : List Addr) (σ : Sto) (s : Shared) (r : R Src) (Q : Value → Shared → Prop) (E : Value → Shared → Prop) : Prop := match r with
  | .ok src H' => ∀ a ρ' s', Step no ρ s ρ' s' → Rel W env ρ' σ H' s' → ItSt ρ' src s'.heap a 0 → src.stands H' → a ∉ ρ' → W.h₀.get? a = none → s.heap.get? a = none → Q (.ref a) s'
  | .exc c H' => ∀ e ρ' s', Step no ρ s ρ' s' → Rel W env ρ' σ H' s' → ExcAt W ρ' s.heap e c s'.heap → E e s'
  | .stuck => False

noncomputable def SimIt (W : Wd) (n : Lv) (env : Env) (C : Cx) (it : It) (e : Expr) : Prop :=
  ∀ A ρ σ H s Q E, AOk W.fr A n → Rel W env ρ σ H s → PostI W env ρ σ s (evS C it σ H) Q E → wpAny (model W.prog W.w) A (eval e env) (fun x s₁ => wpAny (model W.prog W.w) A (pyIter x) Q E s₁) E s

section
variable {W : Wd} {n : Lv} {env : Env} {C : Cx}

theorem callWith_type {A : Around} {s : Shared} {E : Value → Shared → Prop} {Q : Value → Shared → Prop} {pos : Pos} {T : String} {es : List Expr}
    (h : wpAny (model W.prog W.w) A (evalArgs (.type T) true (trees env es) []) (fun a s₁ => wpAny (model W.prog W.w) A (call (.type T) a.pos a.kw) Q E s₁) E s) : wpAny (model W.prog W.w) A (callWith pos (.type T) [] (trees env es) []) Q E s := by
  unfold callWith
  refine wpAny_bind (wpAny_holding (wpAny_mono h (fun a s₁ h₁ => wpAny_bind (wpAny_standAt ?_)) fun _ _ x => x))
  simp only [trees_any, List.any_nil, Bool.or_false]
  refine wpAny_bind (wpAny_pure ?_)
  exact wpAny_bind (wpAny_mono h₁ (fun r s₂ hr => wpAny_bind (wpAny_holding (wpAny_point (wpAny_pure hr)))) fun _ _ x => x)

theorem simIt_val {x : X} {e : Expr} (hx : Sim W n env VR (eval e env) (ev C x)) : SimIt W n env C (.val x) e := by
  intro A ρ σ H s Q E hA hR hP
  refine hx A ρ σ H s _ _ hA hR ?_
  revert hP
  rw [evS]
  cases ev C x σ H with
  | stuck => exact id
  | exc c h => exact id
  | ok v H1 =>
    simp only [R.bind]
    cases hs : srcV v H1 with
    | none => exact fun h => h.elim
    | some src =>
      intro hP v' ρ1 s1 st1 r1 hv
      refine iter_new r1.toRelH hv hs fun ob hob hIt hst => ?_
      have keep : ∀ b o, s1.heap.get? b = some o → (s1.heap.push ob).get? b = some o := fun b o e => Heap.get?_push_of_some ob e
      have fr := r1.toRelH.fresh (Heap.get?_none_of_le (Nat.le_refl s1.heap.objs.size))
      exact hP _ ρ1 _ (st1.trans (Step.grow keep)) (r1.grow (tk := s1.toks) keep) hIt hst fr.1 fr.2 (step_none st1 (Heap.get?_none_of_le (Nat.le_refl _)))

theorem tiny_bounds {a : Int} (h : tiny a = true) : -1000000 < a ∧ a < 1000000 := by
  simpa [tiny] using h

theorem range_iter {A : Around} {ρ : List Addr} {σ : Sto} {H : H} {s : Shared} {E : Value → Shared → Prop} {Q : Value → Shared → Prop} {r : Addr} {a b : Int} {t u v : Tok} {items : List V} (hR : Rel W env ρ σ H s) (hr : IsRange s.heap r a b 1 t u v)
    (ha : tiny a = true) (hb : tiny b = true) (hit : items = countV a (b - a).toNat)
    (hP : PostI W env ρ σ s (.ok ⟨items, Option.none⟩ H) Q E) : wpAny (model W.prog W.w) A (pyIter (.ref r)) Q E s := by
  have ha' := tiny_bounds ha
  have hb' := tiny_bounds hb
  refine wpAny_pyIter_range hr (small_one (by omega) (by omega) (by omega) (by omega)) ?_
  have keep : ∀ b' o, s.heap.get? b' = some o → (s.heap.push { cls := .type "range_iterator", data := .fields #[rawInt a, rawInt (Builtin.Range.rangeSize a b 1), rawInt 1] }).get? b' = some o := fun b' o e => Heap.get?_push_of_some _ e
  have fr := hR.toRelH.fresh (Heap.get?_none_of_le (Nat.le_refl s.heap.objs.size))
  refine hP _ ρ _ (Step.grow keep) (hR.grow (tk := s.toks) keep) ⟨a, (b - a).toNat, hit, ?_⟩ trivial fr.1 fr.2 (Heap.get?_none_of_le (Nat.le_refl _))
  show (s.heap.push _).get? s.heap.objs.size = _
  rw [Heap.get?_push_size _ rfl, rangeSize_one]
  have e : (if a < b then b - a else 0) = (((b - a).toNat : Nat) : Int) := by split <;> omega
  rw [e]
  simp

/-- a range made -/
theorem range_obj {A : Around} {ρ : List Addr} {σ : Sto} {H : H} {s : Shared} {E : Value → Shared → Prop} {Q : Value → Shared → Prop} {xs : List X} {es : List Expr} {p1 pos : Pos} {sc : Scope} (B : Base W n C) (hsc : ScOk env sc) (h : SimAll W n env C xs es) (h1 : isG sc "range" = true)
    (hA : AOk W.fr A n) (hR : Rel W env ρ σ H s)
    (hP : match evL C xs σ H with
      | .ok vs H1 => ∃ items, rangeV vs = some items ∧ ∀ r a b t u v ρ1 s1, Step no ρ s ρ1 s1 → Rel W env ρ1 σ H1 s1 → IsRange s1.heap r a b 1 t u v → tiny a = true → tiny b = true → items = countV a (b - a).toNat → Q (.ref r) s1
      | .exc c H' => ∀ e ρ' s', Step no ρ s ρ' s' → Rel W env ρ' σ H' s' → ExcAt W ρ' s.heap e c s'.heap → E e s'
      | .stuck => False) : wpAny (model W.prog W.w) A (eval (.Call (.Name "range" p1) es [] pos) env) Q E s := by
  show wpAny _ A (do callWith pos (← eval (.Name "range" p1) env) [] (backTo pos (starEach es env)) []) _ E s
  refine wpAny_bind (load_glob B hsc hR h1 (by decide) (.inr (B.blt _ (.tail _ (.head _)))) ?_)
  rw [starEach_plain h, backTo_plain]
  refine callWith_type (sim_args h A ρ σ H s _ _ hA hR ?_)
  revert hP
  cases evL C xs σ H with
  | stuck => exact id
  | exc c h => exact id
  | ok vs H1 =>
    rintro ⟨items, hs, hP⟩ ⟨pos', kw⟩ ρ1 s1 st1 r1 ⟨hv, hkw⟩
    simp only at hv hkw
    subst hkw
    have keep : ∀ ob b' o, s1.heap.get? b' = some o → (s1.heap.push ob).get? b' = some o := fun ob b' o e => Heap.get?_push_of_some ob e
    unfold rangeV at hs
    split at hs
    · rename_i m
      split at hs
      · rename_i ht
        cases hs
        cases hv with
        | cons q1 q2 =>
          cases q2; cases q1
          exact call_range_1 (hP _ 0 m _ _ _ ρ1 _ (st1.trans (Step.grow (keep _))) (r1.grow (keep _)) (IsRange.new ..) (by decide) ht (by simp))
      · cases hs
    · rename_i a b
      split at hs
      · rename_i ht
        obtain ⟨t1, t2⟩ := Bool.and_eq_true_iff.mp ht
        cases hs
        cases hv with
        | cons q1 q2 =>
          cases q2 with
          | cons q2 q3 =>
            cases q3; cases q1; cases q2
            exact call_range_2 (hP _ a b _ _ _ ρ1 _ (st1.trans (Step.grow (keep _))) (r1.grow (keep _)) (IsRange.new ..) t1 t2 rfl)
      · cases hs
    · cases hs

theorem simIt_range {xs : List X} {es : List Expr} {p1 pos : Pos} {sc : Scope} (B : Base W n C) (hsc : ScOk env sc) (h : SimAll W n env C xs es) (h1 : isG sc "range" = true) :
    SimIt W n env C (.range xs) (.Call (.Name "range" p1) es [] pos) := by
  intro A ρ σ H s Q E hA hR hP
  refine range_obj B hsc h h1 hA hR ?_
  revert hP
  rw [evS]
  cases evL C xs σ H with
  | stuck => exact id
  | exc c h => exact id
  | ok vs H1 =>
    simp only [R.bind]
    cases hs : rangeV vs with
    | none => exact fun h => h.elim
    | some items =>
      exact fun hP => ⟨items, rfl, fun r a b t u v ρ1 s1 st1 r1 hr ha hb hi => range_iter r1 hr ha hb hi fun a ρ' s' st r i1 i2 i3 i4 i5 => hP a ρ' s' (st1.trans st) r i1 i2 i3 i4 (step_none st1 i5)⟩

theorem vrs_count {ρ : List Addr} {acc : Array Value} {a : Int} {k : Nat} (h : ItemsOf (fun i v => ∃ t, v = .int (a + i * 1) t) acc k) : VRs ρ (countV a k) acc.toList := by
  obtain ⟨acc⟩ := acc
  obtain ⟨h1, h2⟩ := h
  simp only [List.size_toArray] at h1
  simp only [List.getElem?_toArray] at h2
  induction acc generalizing a k with
  | nil => simp at h1; subst h1; exact .nil
  | cons x acc ih =>
    cases k with
    | zero => simp at h1
    | succ k =>
      obtain ⟨t, ht⟩ := h2 0 x rfl
      subst ht
      refine .cons ?_ (ih (a := a + 1) (by simpa using h1) fun j v e => ?_)
      · simp; exact VR.int _ _
      · obtain ⟨t, ht⟩ := h2 (j + 1) v (by simpa using e)
        refine ⟨t, ht.trans ?_⟩
        congr 1
        push_cast
        omega

/-- list(range(..)) -/
theorem sim_lrange {xs : List X} {es : List Expr} {p1 p2 q pos : Pos} {sc : Scope} (B : Base W n C) (hsc : ScOk env sc) (h : SimAll W n env C xs es) (h1 : isG sc "range" = true) (h2 : isG sc "list" = true) :
    Sim W n env VR (eval (.Call (.Name "list" p2) [.Call (.Name "range" p1) es [] q] [] pos) env) (ev C (.lrange xs)) := by
  intro A ρ σ H s Q E hA hR hP
  show wpAny _ A (do callWith pos (← eval (.Name "list" p2) env) [] (backTo pos (starEach [.Call (.Name "range" p1) es [] q] env)) []) _ E s
  refine wpAny_bind (load_glob B hsc hR h2 (by decide) (.inr (B.bi .list)) ?_)
  rw [show starEach [.Call (.Name "range" p1) es [] q] env = trees env [.Call (.Name "range" p1) es [] q] from rfl, backTo_plain]
  refine callWith_type (T := "list") (Calls.evalArgs_plain (Calls.spliced_cons (range_obj B hsc h h1 hA hR ?_)))
  rw [ev] at hP
  revert hP
  cases evL C xs σ H with
  | stuck => exact id
  | exc c h => exact id
  | ok vs H1 =>
    simp only [R.bind]
    cases hs : rangeV vs with
    | none => exact fun h => h.elim
    | some items =>
      dsimp only
      split
      rotate_left
      · exact fun h => h.elim
      rename_i hc
      refine fun hP => ⟨items, rfl, fun r a b t u v ρ1 s1 st1 r1 hr ha hb hi => Calls.spliced_nil ?_⟩
      have ha' := tiny_bounds ha
      have hb' := tiny_bounds hb
      refine call_list_range (hA.1 (B.calm ▸ hc)) hr (small_one (by omega) (by omega) (by omega) (by omega)) (n := (b - a).toNat) (by rw [rangeSize_one]; split <;> omega) (by omega) fun h' tk acc c' hk hS hacc => ?_
      have f := r1.fresh (Heap.get?_none_of_le (Nat.le_refl s1.heap.objs.size))
      refine hP _ (ρ1 ++ [s1.heap.objs.size]) _ (st1.trans ⟨⟨_, rfl, by simpa using Heap.get?_none_of_le (Nat.le_refl _)⟩, fun b o e _ _ => ⟨o, hk b o e, .refl o⟩, fun b o e => ⟨o, hk b o e⟩⟩) ?_ (.ref _ _ (by rw [← r1.heap.len]; simp))
      exact (r1.grow (tk := tk) hk).adopt ⟨acc, ⟨c', hS⟩, by rw [hi]; exact vrs_count hacc⟩ f.1 f.2.1 f.2.2.1 f.2.2.2.1 f.2.2.2.2

theorem VRs.pick {ρ : List Addr} {vs : List V} {items : Array Value} (h : VRs ρ vs items.toList) : ∀ js : List Nat, VRs ρ (js.filterMap (vs[·]?)) (js.filterMap (items[·]?))
  | [] => .nil
  | j :: js => by
    have hl := h.length
    simp only [Array.length_toList] at hl
    by_cases hj : j < vs.length
    · obtain ⟨x, hx, hv⟩ := h.at (i := j) (List.getElem?_eq_getElem hj)
      have hx' : items[j]? = some x := by rw [← Array.getElem?_toList]; exact hx
      rw [List.filterMap_cons_some (List.getElem?_eq_getElem hj), List.filterMap_cons_some hx']
      exact .cons hv (VRs.pick h js)
    · have h1 : vs[j]? = none := List.getElem?_eq_none (by omega)
      have h2 : items[j]? = none := Array.getElem?_eq_none (by omega)
      rw [List.filterMap_cons_none h1, List.filterMap_cons_none h2]
      exact VRs.pick h js

theorem sim_part {x : X} {o : Option Expr} (h : (o = none ∧ x = .none) ∨ ∃ e, o = some e ∧ Sim W n env VR (eval e env) (ev C x)) : Sim W n env VR (evalPart o env) (ev C x) := by
  rcases h with ⟨rfl, rfl⟩ | ⟨e, rfl, h⟩
  · intro A ρ σ H s Q E hA hR hP
    rw [ev] at hP
    exact wpAny_pure (post_same hR hP VR.none)
  · exact h

theorem part_is {ρ : List Addr} {v : V} {v' : Value} {p : Option Int} (hv : VR ρ v v') (h : partV v = some p) : IsPart v' p := by
  cases hv <;> cases h
  · exact .none
  · exact .int _ _

theorem sim_slice {i : Nat} {nm : Str} {np p pos : Pos} {lo hi st : X} {l u k : Option Expr} {sc : Scope} (hsc : ScOk env sc) (hi' : W.T.vars[i]? = some nm) (hv : isV sc nm = true) (hn : okName nm = true)
    (hl : Sim W n env VR (evalPart l env) (ev C lo)) (hu : Sim W n env VR (evalPart u env) (ev C hi)) (hk : Sim W n env VR (evalPart k env) (ev C st)) : Sim W n env VR (eval (.Subscript (.Name nm np) (.Slice l u k p) pos) env) (ev C (.slice i lo hi st)) := by
  intro A ρ σ H s Q E hA hR hP
  rw [ev] at hP
  have key : wpAny (model W.prog W.w) A (eval (.Name nm np) env) (fun o s₁ => wpAny (model W.prog W.w) A (eval (.Slice l u k p) env) (fun i s₂ => s₂.TypeIs o "list" ∧ wpAny (model W.prog W.w) A (getItem o i) Q E s₂) E s₁) E s := by
    cases hσ : σ i with
    | none => rw [hσ] at hP; exact hP.elim
    | some v =>
      rw [hσ] at hP
      have hP' : Post W env ρ σ s VR ((ev C lo σ H).bind fun a h1 => (ev C hi σ h1).bind fun b h2 => (ev C st σ h2).bind fun c h3 => sliceV v a b c h3) Q E := hP
      refine wpAny_Name (load_var hsc hR hi' hv hn hσ fun v' hv' => ?_) (okName_1 hn)
      refine wpAny_Slice (wpAny_mono (hl A ρ σ H s _ _ hA hR hP'.bind) ?_ fun _ _ e => e)
      rintro a' s1 ⟨a, H1, ρ1, st1, r1, v1, hP1⟩
      refine wpAny_mono (hu A ρ1 σ H1 s1 _ _ hA r1 hP1.bind) ?_ fun _ _ e => e
      rintro b' s2 ⟨b, H2, ρ2, st2, r2, v2, hP2⟩
      refine wpAny_mono (hk A ρ2 σ H2 s2 _ _ hA r2 hP2.bind) ?_ fun _ _ e => e
      rintro c' s3 ⟨c, H3, ρ3, st3, r3, v3, hP3⟩
      unfold sliceV at hP3
      split at hP3
      · rename_i vs hvs
        split at hP3
        · rename_i plo hlo
          split at hP3
          · rename_i phi hhi
            split at hP3
            · rename_i pst hst
              split at hP3
              · rename_i hc
                obtain ⟨ix, ad, items, rfl, rfl, _, _, rr, hpl⟩ := listAt_real r3.toRelH (st3.vr (st2.vr (st1.vr hv'))) hvs
                have hbl := big_le
                have hlen := rr.length
                simp only [Array.length_toList] at hlen
                have keep : ∀ ob b' o, s3.heap.get? b' = some o → (s3.heap.push ob).get? b' = some o := fun ob b' o e => Heap.get?_push_of_some ob e
                refine ⟨(hpl.isList.push _).typeIs, wpAny_getItem_list_slice (hpl.isList.push _) (Heap.IsSliceOf.new ..) (part_is (st3.vr (st2.vr v1)) hlo) (part_is (st3.vr v2) hhi) (part_is v3 hst) hc.1 ?_ (by omega)⟩
                refine hP3 _ _ _ ((Step.grow (keep _)).trans Step.push) (Rel.push (r3.grow (tk := s3.toks) (keep _)) (tk := s3.toks) ?_) (.ref _ _ (by rw [← r3.heap.len]; simp))
                refine ⟨_, ⟨_, Heap.get?_push_size _ rfl⟩, ?_⟩
                have := (VRs.pick rr (sliceRange (sliceBounds plo phi pst vs.length).1 (sliceBounds plo phi pst vs.length).2.1 (sliceBounds plo phi pst vs.length).2.2)).mono (δ := [(s3.heap.push { cls := .type "slice", data := .fields #[a', b', c'] }).objs.size])
                unfold slicePick pickV
                rw [← hlen]
                simpa using this
              · exact hP3.elim
            · exact hP3.elim
          · exact hP3.elim
        · exact hP3.elim
      · exact hP3.elim
  cases k with
  | none => exact wpAny_Subscript_Slice (T := "list") list_getitem_lookup key
  | some e => exact wpAny_Subscript_Slice_step (T := "list") list_getitem_lookup key

theorem simIt_rev {x : X} {es : List Expr} {p1 pos : Pos} {sc : Scope} (B : Base W n C) (hsc : ScOk env sc) (h : SimAll W n env C [x] es) (h1 : isG sc "reversed" = true) :
    SimIt W n env C (.rev x) (.Call (.Name "reversed" p1) es [] pos) := by
  intro A ρ σ H s Q E hA hR hP
  show wpAny _ A (do callWith pos (← eval (.Name "reversed" p1) env) [] (backTo pos (starEach es env)) []) _ E s
  refine wpAny_bind (load_glob B hsc hR h1 (by decide) (.inr (B.blt _ (.tail _ (.tail _ (.head _))))) ?_)
  rw [starEach_plain h, backTo_plain]
  refine callWith_type (sim_args h A ρ σ H s _ _ hA hR ?_)
  revert hP
  rw [evS]
  simp only [evL]
  cases ev C x σ H with
  | stuck => exact id
  | exc c h => exact id
  | ok v H1 =>
    simp only [R.bind]
    cases hs : srcR v H1 with
    | none => exact fun h => h.elim
    | some src =>
      rintro hP ⟨pos', kw⟩ ρ1 s1 st1 r1 ⟨hv, hkw⟩
      simp only at hv hkw
      subst hkw
      unfold srcR at hs
      split at hs
      · rename_i i
        split at hs
        · rename_i vs e
          cases hs
          cases hv with
          | cons q1 q2 =>
            cases q2
            cases q1 with
            | ref _ a hi =>
              obtain ⟨items, hl, rr⟩ := r1.toRelH.list hi e
              have hlen := rr.length
              simp only [Array.length_toList] at hlen
              have keep : ∀ ob b' o, s1.heap.get? b' = some o → (s1.heap.push ob).get? b' = some o := fun ob b' o e => Heap.get?_push_of_some ob e
              have fr := r1.toRelH.fresh (Heap.get?_none_of_le (Nat.le_refl s1.heap.objs.size))
              refine call_reversed_list hl.isList (wpAny_pyIter_revIter (l := a) (i := (items.size : Int) - 1) ⟨_, Heap.get?_push_size _ rfl, rfl, rfl⟩ ?_)
              refine hP _ ρ1 _ (st1.trans (Step.grow (keep _))) (r1.grow (tk := s1.toks) (keep _)) ⟨a, hi, .inr ⟨rfl, _, Heap.get?_push_size _ rfl, rfl, ?_⟩⟩ e fr.1 fr.2 (step_none st1 (Heap.get?_none_of_le (Nat.le_refl _)))
              simp [revObj, hlen]
        · cases hs
      · cases hs

theorem folded_plain {e : Expr} (h : notSet e = true) : ∀ x, foldedSetIterable e env x = pure x := by
  intro x
  cases e <;> first | rfl | (exact absurd h (by simp [notSet]))

/-- a comprehension; `use` is what is done with the list while its frame stands -/
theorem comp_sound {A : Around} {ρ : List Addr} {σ : Sto} {H : H} {s : Shared} {E : Value → Shared → Prop} {Q : Value → Shared → Prop} {use : Option (Value → Sem Unit)} {v : Nat} {tgt : Str} {px pos pos' : Pos} {iter elt : Expr} {ifs : List Expr} {scope sc : Scope}
    {it : It} {xelt : X} {xifs : List X} (hA : AOk W.fr A n) (hcn : C.calm = n.calm) (hnd : W.T.vars.Nodup) (hR : Rel W env ρ σ H s) (hsc : ScOk env sc) (ok : CompOk W.T scope sc tgt) (hv : W.T.vars[v]? = some tgt) (hset : notSet iter = true)
    (hit : SimIt W n env C it iter) (helt : ∀ L, Sim W n (cenvOf scope env L) VR (eval elt (cenvOf scope env L)) (ev C xelt)) (hifs : ∀ L, SimTAll W n (cenvOf scope env L) C xifs ifs)
    (hP : match ev C (.comp xelt v it xifs) σ H with
      | .ok w H' => ∀ acc ρ' s' L m, Step no ρ s ρ' s' → Rel W env ρ' σ H' s' → VR ρ' w acc → s.heap.get? L = none → L ∉ ρ' → W.h₀.get? L = none → s'.heap.Ns L m → (match use with
        | none => ∀ h', Heap.SameBut L s'.heap h' → Q acc { s' with heap := h' }
        | some u => wpAny (model W.prog W.w) A (u acc) (fun _ s'' => ∃ m, s''.heap.Ns L m ∧ ∀ h', Heap.SameBut L s''.heap h' → Q .none { s'' with heap := h' }) E s')
      | .exc c H' => ∀ e ρ' s', Step no ρ s ρ' s' → Rel W env ρ' σ H' s' → ExcAt W ρ' s.heap e c s'.heap → E e s'
      | .stuck => False) :
    wpAny (model W.prog W.w) A (comprehension (.ListComp elt [⟨.Name tgt px, iter, ifs, 0⟩] scope pos) scope env pos' (newList []) false (eval iter env) use) Q E s := by
  have hclos : closureFor scope env = pure (clo env scope.names []) := closureFor_clo fun x hx hk => by
    obtain ⟨c, y, h1, _⟩ := hR.env.cell x.1 (hsc.cel x.1 (ok.fre x hx hk).1)
    exact ⟨c, h1⟩
  refine wpAny_comprehension_free (cl := clo env scope.names []) rfl (folded_plain hset) hclos ok.kind ok.loc (hit A ρ σ H s _ _ hA hR ?_)
  rw [ev] at hP
  cases hS : evS C it σ H with
  | stuck => rw [hS] at hP; exact hP.elim
  | exc c h => rw [hS] at hP; exact hP
  | ok src H1 =>
    rw [hS] at hP
    simp only [R.bind] at hP
    intro a ρ1 s1 st1 R1 hIt hst haρ han has
    by_cases hsz' : C.calm = true ∧ src.items.length ≤ big
    · rw [if_pos hsz'] at hP
      obtain ⟨hcalm, hsz⟩ := hsz'
      cases hC : compR src (fun x h2 => testsR (evT C xifs (upd σ v x)) h2) (fun x h2 => ev C xelt (upd σ v x) h2) src.items H1 with
      | stuck => rw [hC] at hP; exact hP.elim
      | exc c h => exact absurd hC (compR_exc _ _ _ _)
      | ok vs H2 =>
        rw [hC] at hP
        simp only [alloc] at hP
        refine wpAny_newObj_type ?_ (by show (#[] : Array Value).size ≤ sizeLine; simp)
        -- the list
        have keepD : ∀ b o, s1.heap.get? b = some o → (s1.heap.push { cls := .type "list", dict := none, data := .seq ([] : List Value).toArray }).get? b = some o := fun b o e => Heap.get?_push_of_some _ e
        have RD := R1.grow (tk := s1.toks) keepD
        have frD := R1.fresh (Heap.get?_none_of_le (Nat.le_refl s1.heap.objs.size))
        have hPlD : (s1.heap.push { cls := .type "list", dict := none, data := .seq ([] : List Value).toArray }).PlainList s1.heap.objs.size #[] := ⟨_, Heap.get?_push_size _ rfl⟩
        have hDa : s1.heap.objs.size ≠ a := fun q => by
          obtain ⟨o, e, _⟩ := hIt.alive
          rw [← q, Heap.get?_none_of_le (Nat.le_refl _)] at e; cases e
        refine newEnv_comp ?_
        dsimp only
        generalize hHD : s1.heap.push { cls := .type "list", dict := none, data := .seq ([] : List Value).toArray } = HD at *
        have hsD : HD.objs.size = s1.heap.objs.size + 1 := by rw [← hHD]; exact Heap.size_push ..
        obtain ⟨RC, keepC, ownC, m0, ns0⟩ := cenv_rel (s := { s1 with heap := HD }) hnd RD hsc ok hv
        dsimp only at RC keepC ownC ns0
        have hcenv : ({ newEnv scope HD.objs.size env.globals (cellsFrom (HD.objs.size + 1) scope.names (clo env scope.names [])) env.qual none .none (some env) builtinsNs with scope := relabel scope env } : Env) = cenvOf scope env HD.objs.size := rfl
        rw [hcenv]
        generalize hHC : pushCells (HD.push { cls := .type "dict", data := .dict #[] }) scope.names = HC at *
        have keep1 : ∀ b o, s1.heap.get? b = some o → HC.get? b = some o := fun b o e => keepC b o (keepD b o e)
        have hD1 : s1.heap.get? s1.heap.objs.size = none := Heap.get?_none_of_le (Nat.le_refl _)
        have hD0 : s.heap.get? s1.heap.objs.size = none := step_none st1 hD1
        have hL0 : s.heap.get? HD.objs.size = none := step_none st1 (Heap.get?_none_of_le (by rw [hsD]; omega))
        have hkT : (cenvOf scope env HD.objs.size).kindOf tgt = some .local ∨ (cenvOf scope env HD.objs.size).kindOf tgt = some .cell := by
          rcases ok.tgt with q | q
          · exact .inl (cenv_scOk.loc tgt q)
          · rw [cenv_kind, q]; exact .inr rfl
        have hItC : ItSt ρ1 src HC a 0 := hIt.keep fun o e => ⟨o, keep1 a o e, .refl o⟩
        have hPlC : HC.PlainList s1.heap.objs.size #[] := hPlD.at fun o e => keepC _ o e
        have loop : codeAny (model W.prog W.w) A (.compLoop (.ListComp elt [⟨.Name tgt px, iter, ifs, 0⟩] scope pos) 0 (.ref a) (.ref s1.heap.objs.size) (cenvOf scope env HD.objs.size))
            (compPost (model W.prog W.w) A E use Q (.ref s1.heap.objs.size) HD.objs.size) { s1 with heap := HC } := by
          refine comp_loop (s₀ := s) (ρ := ρ) (σ := σ) (v := v) (tgt := tgt) (H2 := H2) (vs := vs) (src := src) hA (hA.1 (hcn ▸ hcalm)) hnd hv hkT (helt _) (hifs _) hsz (fun b hb => ?_) hD0 has hDa frD.2.1 han ?_ (src.items.length + 1) _
            ⟨src.items, [], [], vs, ρ1, H1, #[], rfl, rfl, rfl, by simp, hC, st1.trans (Step.grow keep1), ?_, hItC, hPlC, VRs.nil, frD.1, haρ⟩
          · have := ownC b hb
            exact step_none st1 (Heap.get?_none_of_le (by rw [hsD] at this; omega))
          · intro ρ' s' ys st' R' hPl' hys' hDρ'
            have Ns' : ∃ m, s'.heap.Ns HD.objs.size m := let ⟨m, hm, _⟩ := R'.env.ns; ⟨m, hm⟩
            -- the frame around stands as it stood
            have E' : EnvR W env ρ' σ s'.heap := hR.env.step st' (fun q => q) fun _ _ _ _ q => q
            have R2 : Rel W env ρ' σ H2 s' := ⟨R'.toRelH, E'⟩
            obtain ⟨mD, eD⟩ := id hPl'
            have nD := E'.notFields eD (.inr ⟨_, _, rfl⟩)
            have R3 := R2.adopt (o := .list vs) ⟨ys, hPl', hys'.mono⟩ hDρ' frD.2.1 nD.1 nD.2 (R2.toRelH.noFr_list hPl')
            have st3 : Step no ρ s (ρ' ++ [s1.heap.objs.size]) s' := by
              obtain ⟨δ, rfl, nw⟩ := st'.ext
              refine ⟨⟨δ ++ [s1.heap.objs.size], by simp, fun b hb => ?_⟩, st'.keep, st'.live⟩
              rcases List.mem_append.mp hb with hb | hb
              · exact nw b hb
              · simp at hb; subst hb; exact hD0
            obtain ⟨m, hm⟩ := Ns'
            have hLD : HD.objs.size ≠ s1.heap.objs.size := by rw [hsD]; omega
            have hLρ : HD.objs.size ∉ ρ' ++ [s1.heap.objs.size] := fun q => by
              rcases List.mem_append.mp q with q | q
              · exact R'.env.loc q
              · simp at q; exact hLD q
            have fin := hP (.ref s1.heap.objs.size) _ s' HD.objs.size m st3 R3 (.ref _ _ (by rw [← R2.heap.len]; simp)) hL0 hLρ R'.env.new hm
            cases use with
            | none => exact ⟨m, hm, fin⟩
            | some u => exact fin
          · exact RC
        exact codeAny_compStart_list loop (iter_self hItC loop)
    · rw [if_neg hsz'] at hP; exact hP.elim

theorem sim_comp {v : Nat} {tgt : Str} {px pos : Pos} {iter elt : Expr} {ifs : List Expr} {scope sc : Scope} {it : It} {xelt : X} {xifs : List X} (hcn : C.calm = n.calm) (hnd : W.T.vars.Nodup) (hsc : ScOk env sc) (ok : CompOk W.T scope sc tgt) (hv : W.T.vars[v]? = some tgt)
    (hset : notSet iter = true) (hit : SimIt W n env C it iter) (helt : ∀ L, Sim W n (cenvOf scope env L) VR (eval elt (cenvOf scope env L)) (ev C xelt)) (hifs : ∀ L, SimTAll W n (cenvOf scope env L) C xifs ifs) :
    Sim W n env VR (eval (.ListComp elt [⟨.Name tgt px, iter, ifs, 0⟩] scope pos) env) (ev C (.comp xelt v it xifs)) := by
  intro A ρ σ H s Q E hA hR hP
  rw [eval_ListComp]
  refine comp_sound (use := none) hA hcn hnd hR hsc ok hv hset hit helt hifs ?_
  cases hr : ev C (.comp xelt v it xifs) σ H with
  | stuck => rw [hr] at hP; exact hP
  | exc c h => rw [hr] at hP; exact hP
  | ok w H' =>
    rw [hr] at hP
    intro acc ρ' s' L m st r hv' hL hLρ hLn hNs h' hs'
    have hll : env.locals ≠ L := fun q => by obtain ⟨o, e⟩ := hR.env.alive; rw [q, hL] at e; cases e
    have hlc : ∀ n c, env.kindOf n = some .cell ∨ env.kindOf n = some .free → env.cells.lookup n = some c → c ≠ L := fun n c hk hc q => by
      obtain ⟨o, e⟩ := hR.env.cellAlive hk hc; rw [q, hL] at e; cases e
    exact hP acc ρ' _ (st.ext_ (tk := s'.toks) hs'.extBut hL) ⟨r.toRelH.aside (tk := s'.toks) hs'.extBut hLρ hLn (.inl (hR.toRelH.noFr fun o es n e _ => by rw [hL] at e; cases e)), r.env.aside hs'.extBut hll hlc⟩ hv'
end
end Mine

set_option autoImplicit false
set_option linter.unusedVariables false
namespace Mine
open PySem PyProof.Rows

noncomputable def PostS (W : Wd) (env : Env) (ρ : List Addr) (s : Shared) (r : RS) (Q : Flow → Shared → Prop) (E : Value → Shared → Prop) : Prop := match r with
  | .next σ' H' => ∀ ρ' s', Step (mine env) ρ s ρ' s' → Rel W env ρ' σ' H' s' → Q .next s'
  | .ret v H' => ∀ v' ρ' s', Step (mine env) ρ s ρ' s' → RelH W ρ' H' s' → VR ρ' v v' → Q (.ret v') s'
  | .exc c σ' H' => ∀ e ρ' s', Step (mine env) ρ s ρ' s' → Rel W env ρ' σ' H' s' → ExcAt W ρ' s.heap e c s'.heap → E e s'
  | .stuck => False

noncomputable def SimS (W : Wd) (n : Lv) (env : Env) (t : Sem Flow) (f : Sto → H → RS) : Prop :=
  ∀ A ρ σ H s Q E, AOk W.fr A n → Rel W env ρ σ H s → PostS W env ρ s (f σ H) Q E → wpAny (model W.prog W.w) A t Q E s

theorem PostS.later {W : Wd} {env : Env} {ρ ρ1 : List Addr} {s s1 : Shared} {r : RS} {Q : Flow → Shared → Prop} {E : Value → Shared → Prop} (st : Step (mine env) ρ s ρ1 s1) (h : PostS W env ρ s r Q E) : PostS W env ρ1 s1 r Q E := by
  cases r with
  | stuck => exact h
  | next σ' H' => exact fun ρ' s' st' => h ρ' s' (st.trans st')
  | ret v H' => exact fun v' ρ' s' st' => h v' ρ' s' (st.trans st')
  | exc c σ' H' => exact fun e ρ' s' st' r' x' => h e ρ' s' (st.trans st') r' (x'.back st)

section
variable {W : Wd} {n : Lv} {env : Env} {C : Cx}

theorem simS_nil : SimS W n env (execs [] env) (exs C []) := by
  intro A ρ σ H s Q E hA hR hP
  rw [exs] at hP
  exact wpAny_execs_nil (hP ρ s (.refl ρ s) hR)

theorem simS_cons {st : Stmt} {rest : List Stmt} {x : S} {xs : List S} (hx : SimS W n env (exec st env) (ex C x)) (hxs : SimS W n env (execs rest env) (exs C xs)) : SimS W n env (execs (st :: rest) env) (exs C (x :: xs)) := by
  intro A ρ σ H s Q E hA hR hP
  rw [exs] at hP
  refine wpAny_execs_cons (hx A ρ σ H s _ _ hA hR ?_)
  cases hr : ex C x σ H with
  | stuck => rw [hr] at hP; exact hP
  | ret v H1 => rw [hr] at hP; exact hP
  | exc c σ1 H1 => rw [hr] at hP; exact hP
  | next σ1 H1 =>
    rw [hr] at hP
    exact fun ρ1 s1 st1 r1 => hxs A ρ1 σ1 H1 s1 Q E hA r1 (PostS.later st1 hP)

theorem simS_ret {x : X} {e : Expr} {pos : Pos} (hx : Sim W n env VR (eval e env) (ev C x)) : SimS W n env (exec (.Return (some e) pos) env) (ex C (.ret x)) := by
  intro A ρ σ H s Q E hA hR hP
  rw [ex] at hP
  refine wpAny_Return_some (hx A ρ σ H s _ _ hA hR ?_)
  cases hr : ev C x σ H with
  | stuck => rw [hr] at hP; exact hP
  | exc c H1 => rw [hr] at hP; exact fun e ρ' s' st r => hP e ρ' s' st.of_no r
  | ok v H1 => rw [hr] at hP; exact fun v' ρ' s' st r hv => hP v' ρ' s' st.of_no r.toRelH hv

theorem simS_ite {x : X} {e : Expr} {a b : List S} {sa sb : List Stmt} {pos : Pos} (hx : SimT W n env C x e) (ha : SimS W n env (execs sa env) (exs C a)) (hb : SimS W n env (execs sb env) (exs C b)) :
    SimS W n env (exec (.If e sa sb pos) env) (ex C (.ite x a b)) := by
  intro A ρ σ H s Q E hA hR hP
  rw [ex] at hP
  refine wpAny_If (hx A ρ σ H s _ _ hA hR ?_)
  unfold evTr
  cases hr : ev C x σ H with
  | stuck => rw [hr] at hP; exact hP
  | exc c H1 => rw [hr] at hP; exact fun e ρ' s' st r => hP e ρ' s' st.of_no r
  | ok v H1 =>
    rw [hr] at hP
    simp only [R.bind]
    simp only at hP
    cases ht : truthV v with
    | none => rw [ht] at hP; exact hP
    | some t =>
      rw [ht] at hP
      intro c ρ1 s1 st1 r1 hc
      have hc' : t = c := hc
      subst hc'
      cases t with
      | true => exact ha A ρ1 σ H1 s1 Q E hA r1 (PostS.later st1.of_no hP)
      | false => exact hb A ρ1 σ H1 s1 Q E hA r1 (PostS.later st1.of_no hP)

theorem interactive_fun (h : env.scope.kind = .function) : interactive env = false := by
  unfold interactive; rw [h]; rfl

noncomputable def notComp : Expr → Bool
  | .ListComp .. => false
  | .SetComp .. => false
  | .DictComp .. => false
  | _ => true
theorem swaps_false {e : Expr} (h : notComp e = true) (t : Option Expr) (l : Nat) : swapsWith e t l env = pure false := by
  cases e <;> first | rfl | (exact absurd h (by simp [notComp]))

theorem simS_expr {x : X} {e : Expr} {pos : Pos} (hx : Sim W n env VR (eval e env) (ev C x)) (hc : notComp e = true) : SimS W n env (exec (.Expr e pos) env) (ex C (.expr x)) := by
  intro A ρ σ H s Q E hA hR hP
  rw [ex] at hP
  refine wpAny_Expr_any (hx A ρ σ H s _ _ hA hR ?_) (interactive_fun hR.env.kind) (swaps_false hc _ _)
  cases hr : ev C x σ H with
  | stuck => rw [hr] at hP; exact hP
  | exc c H1 => rw [hr] at hP; exact fun e ρ' s' st r => hP e ρ' s' st.of_no r
  | ok v H1 => rw [hr] at hP; exact fun v' ρ' s' st r hv => hP ρ' s' st.of_no r

theorem own_mine {nm : Str} {b : Addr} (h : (env.kindOf nm = some .local ∧ b = env.locals) ∨ (env.kindOf nm = some .cell ∧ env.cells.lookup nm = some b)) : mine env b := by
  rcases h with ⟨_, h⟩ | ⟨hk, h⟩
  · exact .inl h
  · exact .inr ⟨nm, hk, h⟩

theorem simS_assign {x : X} {e : Expr} {i : Nat} {nm : Str} {p pos : Pos} (hnd : W.T.vars.Nodup) (hx : Sim W n env VR (eval e env) (ev C x)) (hc : notComp e = true) (hi : W.T.vars[i]? = some nm) (hk : env.kindOf nm = some .local ∨ env.kindOf nm = some .cell) :
    SimS W n env (exec (.Assign [.Name nm p] e pos) env) (ex C (.assign i x)) := by
  intro A ρ σ H s Q E hA hR hP
  rw [ex] at hP
  refine wpAny_Assign_Name (hx A ρ σ H s _ _ hA hR ?_) (swaps_false hc _ _)
  cases hr : ev C x σ H with
  | stuck => rw [hr] at hP; exact hP
  | exc c H1 => rw [hr] at hP; exact fun e ρ' s' st r => hP e ρ' s' st.of_no r
  | ok v H1 =>
    rw [hr] at hP
    intro v' ρ1 s1 st1 r1 hv
    exact store_sound hnd r1 hi hk hv fun s2 r2 st2 => hP ρ1 s2 (st1.of_no.trans (st2.weaken fun b o e q => own_mine q)) r2

/-- a name bound to a comprehension's list -/
theorem simS_assignComp {v i : Nat} {tgt nm : Str} {px p pos pos' : Pos} {iter elt : Expr} {ifs : List Expr} {scope sc : Scope} {it : It} {xelt : X} {xifs : List X} (hcn : C.calm = n.calm) (hnd : W.T.vars.Nodup) (hsc : ScOk env sc) (ok : CompOk W.T scope sc tgt) (hv : W.T.vars[v]? = some tgt)
    (hset : notSet iter = true) (hit : SimIt W n env C it iter) (helt : ∀ L, Sim W n (cenvOf scope env L) VR (eval elt (cenvOf scope env L)) (ev C xelt)) (hifs : ∀ L, SimTAll W n (cenvOf scope env L) C xifs ifs)
    (hi : W.T.vars[i]? = some nm) (hk : env.kindOf nm = some .local ∨ env.kindOf nm = some .cell) :
    SimS W n env (exec (.Assign [.Name nm p] (.ListComp elt [⟨.Name tgt px, iter, ifs, 0⟩] scope pos') pos) env) (ex C (.assign i (.comp xelt v it xifs))) := by
  intro A ρ σ H s Q E hA hR hP
  have hsw : ∃ b, swapsWith (.ListComp elt [⟨.Name tgt px, iter, ifs, 0⟩] scope pos') (some (.Name nm p)) pos.line env = pure b := ⟨_, rfl⟩
  obtain ⟨b, hsw⟩ := hsw
  cases b with
  | false =>
    rw [ex] at hP
    refine wpAny_Assign_Name (sim_comp hcn hnd hsc ok hv hset hit helt hifs A ρ σ H s _ _ hA hR ?_) hsw
    cases hr : ev C (.comp xelt v it xifs) σ H with
    | stuck => rw [hr] at hP; exact hP
    | exc c H1 => rw [hr] at hP; exact fun e ρ' s' st r => hP e ρ' s' st.of_no r
    | ok w H1 =>
      rw [hr] at hP
      intro v' ρ1 s1 st1 r1 hv
      exact store_sound hnd r1 hi hk hv fun s2 r2 st2 => hP ρ1 s2 (st1.of_no.trans (st2.weaken fun b o e q => own_mine q)) r2
  | true =>
    rw [exec_Assign_Name_used _ _ _ _ hsw]
    refine wpAny_bind (wpAny_standAt (wpAny_bind ?_))
    show wpAny _ A (do let _ ← comprehension (.ListComp elt [⟨.Name tgt px, iter, ifs, 0⟩] scope pos') scope env _ (newList []) false (eval iter env) (some (assign (.Name nm p) env))) _ _ s
    refine wpAny_bind (wpAny_mono (comp_sound (use := some (assign (.Name nm p) env)) (Q := fun _ s' => Q .next s') hA hcn hnd hR hsc ok hv hset hit helt hifs ?_) (fun _ s' hq => wpAny_pure (wpAny_pure hq)) fun _ _ e => e)
    rw [ex] at hP
    cases hr : ev C (.comp xelt v it xifs) σ H with
    | stuck => rw [hr] at hP; exact hP
    | exc c H1 => rw [hr] at hP; exact fun e ρ' s' st r => hP e ρ' s' st.of_no r
    | ok w H1 =>
      rw [hr] at hP
      intro acc ρ1 s1 L m st1 r1 hv' hL hLρ hLn hNs
      have hll : env.locals ≠ L := fun q => by obtain ⟨o, e⟩ := hR.env.alive; rw [q, hL] at e; cases e
      have hlc : ∀ n c, env.kindOf n = some .cell ∨ env.kindOf n = some .free → env.cells.lookup n = some c → c ≠ L := fun n c hk hc q => by
        obtain ⟨o, e⟩ := hR.env.cellAlive hk hc; rw [q, hL] at e; cases e
      refine wpAny_assign_Name (store_sound hnd r1 hi hk hv' fun s2 r2 st2 => ?_)
      have notOwn : ¬ ((env.kindOf nm = some .local ∧ L = env.locals) ∨ (env.kindOf nm = some .cell ∧ env.cells.lookup nm = some L)) := by
        rintro (⟨_, q⟩ | ⟨q1, q2⟩)
        · exact hll q.symm
        · exact hlc nm L (.inl q1) q2 rfl
      refine ⟨m, ns_kp hNs fun o e => st2.keep L o e hLρ notOwn, fun h' hs' => ?_⟩
      have st12 : Step (mine env) ρ s ρ1 s2 := st1.of_no.trans (st2.weaken fun b o e q => own_mine q)
      exact hP ρ1 _ (st12.ext_ (tk := s2.toks) hs'.extBut hL) ⟨r2.toRelH.aside (tk := s2.toks) hs'.extBut hLρ hLn (.inl (hR.toRelH.noFr fun o es n e _ => by rw [hL] at e; cases e)), r2.env.aside hs'.extBut hll hlc⟩

theorem simS_for {v : Nat} {tgt : Str} {px pos : Pos} {iter : Expr} {body : List Stmt} {it : It} {xs : List S} (hcn : C.calm = n.calm) (hnd : W.T.vars.Nodup) (hv : W.T.vars[v]? = some tgt) (hk : env.kindOf tgt = some .local ∨ env.kindOf tgt = some .cell) (hset : notSet iter = true)
    (hit : SimIt W n env C it iter) (hb : SimS W n env (execs body env) (exs C xs)) : SimS W n env (exec (.For (.Name tgt px) iter body [] pos) env) (ex C (.for v it xs)) := by
  intro A ρ σ H s Q E hA hR hP
  rw [ex] at hP
  refine wpAny_For (hit A ρ σ H s _ _ hA hR ?_) (folded_plain hset)
  cases hS : evS C it σ H with
  | stuck => rw [hS] at hP; exact hP
  | exc c H1 => rw [hS] at hP; exact fun e ρ' s' st r => hP e ρ' s' st.of_no r
  | ok src H1 =>
    rw [hS] at hP
    intro a ρ1 s1 st1 R1 hIt hst haρ han has
    dsimp only at hP
    split at hP
    rotate_left
    · exact hP.elim
    rename_i hcalm
    refine codeAny_forLoop (fun k s' => ∃ rest done ρ' σ' H', k = rest.length + 1 ∧ src.items = done ++ rest ∧ PostS W env ρ s (forR src (fun x σ1 h2 => exs C xs (upd σ1 v x) h2) rest σ' H') Q E ∧
        Step (mine env) ρ s ρ' s' ∧ Rel W env ρ' σ' H' s' ∧ ItSt ρ' src s'.heap a done.length ∧ a ∉ ρ') ?_ (src.items.length + 1)
      ⟨src.items, [], ρ1, σ, H1, rfl, rfl, hP, st1.of_no, R1, hIt, haρ⟩
    rintro k s2 ⟨rest, done, ρ2, σ2, H2, rfl, hsrc, hP2, st2, R2, hIt2, haρ2⟩
    obtain ⟨oi, hoi, hfi⟩ := hIt2.alive
    have hni := R2.env.notFields hoi (.inl hfi)
    cases rest with
    | nil =>
      simp only [forR] at hP2
      split at hP2
      · rename_i hst2
        have hl : done.length = src.items.length := by rw [hsrc]; simp
        rw [hl] at hIt2
        refine next_end (hA.1 (hcn ▸ hcalm)) R2.toRelH hst2 hIt2 fun h' tk he => wpAny_execs_nil ?_
        exact hP2 ρ2 _ (st2.ext_ he has) ⟨R2.toRelH.aside he haρ2 han (.inl (R2.toRelH.noFr_it hIt2)), R2.env.aside he hni.1 hni.2⟩
      · exact hP2.elim
    | cons x rest =>
      simp only [forR] at hP2
      split at hP2
      · rename_i hst2
        have hx : src.items[done.length]? = some x := by rw [hsrc]; simp
        refine next_item R2.toRelH hst2 hIt2 hx fun x' h3 tk3 hxx hIt3 hs3 => ?_
        have R3 : Rel W env ρ2 σ2 H2 { s2 with heap := h3, toks := tk3 } := ⟨R2.toRelH.aside hs3.extBut haρ2 han (.inl (R2.toRelH.noFr_it hIt2)), R2.env.aside hs3.extBut hni.1 hni.2⟩
        have st3 : Step (mine env) ρ s ρ2 { s2 with heap := h3, toks := tk3 } := st2.ext_ hs3.extBut has
        refine wpAny_assign_Name (store_sound hnd R3 hv hk hxx fun s4 R4 st4 => ?_)
        obtain ⟨oI, eI, fI⟩ := hIt3.alive
        have ni := R3.env.notFields eI (.inl fI)
        have noI : ¬ ((env.kindOf tgt = some .local ∧ a = env.locals) ∨ (env.kindOf tgt = some .cell ∧ env.cells.lookup tgt = some a)) := by
          rintro (⟨_, q⟩ | ⟨q1, q2⟩)
          · exact ni.1 q.symm
          · exact ni.2 tgt a (.inl q1) q2 rfl
        have hIt4 := ItSt.step (s := { s2 with heap := h3, toks := tk3 }) hIt3 st4 haρ2 noI
        have st4' : Step (mine env) ρ s ρ2 s4 := st3.trans (st4.weaken fun b o e q => own_mine q)
        have alive4 : ∃ o, s4.heap.get? a = some o := let ⟨o, e, _⟩ := hIt4.alive; ⟨o, e⟩
        refine hb A ρ2 (upd σ2 v x) H2 s4 _ _ hA R4 ?_
        cases hr : exs C xs (upd σ2 v x) H2 with
        | stuck => rw [hr] at hP2; exact hP2
        | exc c σ5 H5 => rw [hr] at hP2; exact hP2.elim
        | ret w H5 => rw [hr] at hP2; exact fun w' ρ5 s5 st5 r5 hw => hP2 w' ρ5 s5 (st4'.trans st5) r5 hw
        | next σ5 H5 =>
          rw [hr] at hP2
          intro ρ5 s5 st5 R5
          have hnm : ¬ mine env a := by
            obtain ⟨o4, e4, f4⟩ := hIt4.alive
            rintro (q | ⟨m, q1, q2⟩)
            · exact (R4.env.notFields e4 (.inl f4)).1 q.symm
            · exact (R4.env.notFields e4 (.inl f4)).2 m a (.inl q1) q2 rfl
          have haρ5 : a ∉ ρ5 := let ⟨o, e⟩ := alive4; st5.fresh e haρ2
          refine ⟨rest.length + 1, by simp, rest, done ++ [x], ρ5, σ5, H5, rfl, by rw [hsrc]; simp, hP2, st4'.trans st5, R5, ?_, haρ5⟩
          have := hIt4.step st5 haρ2 hnm
          simpa using this
      · exact hP2.elim
end
end Mine

set_option autoImplicit false
set_option linter.unusedVariables false
namespace Mine
open PySem PyProof.Rows PySem.W

section
variable {W : Wd} {n : Lv} {env : Env} {C : Cx}

theorem simS_raise {c : Nat} {nm : Str} {np cpos pos p : Pos} {k : Nat} {msg : Str} {sc : Scope} (B : Base W n C) (hsc : ScOk env sc) (hnm : clsName W.T c = some nm) (h1 : isG sc nm = true) (h2 : okName nm = true) :
    SimS W n env (exec (.Raise (some (.Call (.Name nm np) [.Constant (.str msg) k p] [] cpos)) none pos) env) (ex C (.raise c)) := by
  intro A ρ σ H s Q E hA hR hP
  rw [ex] at hP
  split at hP
  rotate_left
  · exact hP.elim
  rename_i hcalm
  obtain ⟨D', hmg, hcl⟩ := B.cls c nm hnm
  obtain ⟨K, KI, facts⟩ := B.exc
  obtain ⟨D, hD, F, _⟩ := facts c _ hcl
  cases hD
  obtain ⟨x, O⟩ := F.own
  obtain ⟨bm, N, nm', q, bs, hdct, sn, sub, ab, col, dd, k0, k1, k2, k3, k5, mN, hC, hN, hq, T⟩ := (O.keeps hR.keep).obj
  refine wpAny_Raise_call_subT (C := D') (nm := nm') (q := q) (N := N) (bs := bs) (bm := bm) (hdct := hdct) (sn := sn) (sub := sub) (ab := ab) (col := col) (dd := dd) (k0 := k0) (k1 := k1) (k2 := k2) (k3 := k3) (k5 := k5)
    PySem.F.excBase_ValueError (mN := mN) (T.tail.hasType PySem.F.excBase_ValueError.hasBase) (hA.1 (B.calm ▸ hcalm)) rfl (hq _ (.head _)) (load_glob B hsc hR h1 h2 (.inl hmg) ⟨rfl, ?_⟩)
  refine Calls.evalArgs_plain (Calls.spliced_cons (Calls.Constant_str (k := k) (pos := p) (Calls.spliced_nil ?_)))
  refine ⟨rfl, by simp [sizeLine], hC, hN, T.tail, fun h' e hm => ?_⟩
  obtain ⟨t, ht, _, _⟩ := hm.there
  have hen : s.heap.get? e = none := hm.new
  have fr := hR.toRelH.fresh hen
  exact hP (.ref e) ρ _ (Step.grow (s := s) hm.keeps) (hR.grow hm.keeps) ⟨e, _, _, .ref t, rfl, fr.1, hen, fr.2, ht, hcl, rfl, rfl, .inl rfl⟩

theorem simS_try {c v : Nat} {nm tgt : Str} {np rp hp pos : Pos} {body : List Stmt} {xs : List S} {xh : X} {eh : Expr} {outer : List Env} {sc : Scope} (B : Base W n C) (hsc : ScOk env sc) (hW : W.fr = env :: outer) (hf : env.frame = some env.locals)
    (hb : SimS W n env (execs body env) (exs C xs)) (hh : Sim W ⟨n.d, false⟩ env VR (eval eh env) (ev C.loose xh)) (hnm : clsName W.T c = some nm) (h1 : isG sc nm = true) (h2 : okName nm = true) (hv : W.T.vars[v]? = some tgt) (hk : env.kindOf tgt = some .local) :
    SimS W n env (exec (.Try body [.ExceptHandler (some (.Name nm np)) (some tgt) [.Return (some eh) rp] hp] [] [] pos) env) (ex C (.try xs c v xh)) := by
  intro A ρ σ H s Q E hA hR hP
  rw [ex] at hP
  refine wpAny_Try_except (hb A ρ σ H s _ _ hA hR ?_)
  cases hr : exs C xs σ H with
  | stuck => rw [hr] at hP; exact hP
  | next σ1 H1 => rw [hr] at hP; exact fun ρ' s' st r => wpAny_execs_nil (hP ρ' s' st r)
  | ret w H1 => rw [hr] at hP; exact hP
  | exc c' σ1 H1 =>
    rw [hr] at hP
    dsimp only at hP
    split at hP
    rotate_left
    · exact hP.elim
    rename_i hcc
    obtain ⟨hcalm, hsub⟩ := hcc
    intro e ρ1 s1 st1 R1 x1
    have hfr : A.frames = some (env :: outer) := by rw [hA.2.2.2, hW]
    refine note_sound hfr hW hf st1 R1.toRelH x1 fun a cls a0 h2' he af => ?_
    subst he
    have R2 : Rel W env ρ1 σ1 H1 { s1 with heap := h2' } := ⟨af.rel, af.env env σ1 R1.env⟩
    obtain ⟨D, hmg, hcl⟩ := B.cls c nm hnm
    refine wpAny_handleBy_cons (codeAny_handlers_test (load_glob B hsc R2 h1 h2 (.inl hmg) ?_)) (by intro q; cases q)
    obtain ⟨q1, q2, q3, oe, vs, q4, q5, q6⟩ := af.at_
    refine matches_exc B.exc af.rel q4 (by rw [q5]; exact af.cl) hsub hcl (codeAny_handlers_suite_as ?_)
    refine land_sound (s := { s1 with heap := h2' }) af af.rel af.st fun h3 ag => ?_
    have R3 : Rel W env ρ1 σ1 H1 { s1 with heap := h3 } := ⟨ag.rel, ag.env env σ1 R2.env⟩
    obtain ⟨p1, p2, p3, oe', vs', p4, p5, p6⟩ := ag.at_
    have nf := R3.env.notFields p4 (.inl ⟨_, p6⟩)
    have R4 := R3.adopt (a := a) (o := .exc c') ⟨oe', cls, p4, ag.cl, p5, vs', p6⟩ p1 p3 nf.1 nf.2 (ag.rel.noFr fun o es m e q => by rw [p4] at e; cases e; rw [p6] at q; cases q)
    have st4 : Step (mine env) ρ s (ρ1 ++ [a]) { s1 with heap := h3 } := by
      obtain ⟨δ, rfl, nw⟩ := ag.st.ext
      refine ⟨⟨δ ++ [a], by simp, fun b hb => ?_⟩, ag.st.keep, ag.st.live⟩
      rcases List.mem_append.mp hb with hb | hb
      · exact nw b hb
      · simp at hb; subst hb; exact p2
    have vre : VR (ρ1 ++ [a]) (.ref H1.length) (.ref a) := .ref _ _ (by rw [← R3.heap.len]; simp)
    refine store_sound B.nd R4 hv (.inl hk) vre fun s4 R5 st5 => ?_
    have st5' : Step (mine env) ρ s (ρ1 ++ [a]) s4 := st4.trans (st5.weaken fun b o e q => own_mine q)
    refine wpAny_execs_cons (wpAny_Return_some (hh (A.mark (some (.ref a))) (ρ1 ++ [a]) _ _ s4 _ _ ⟨fun q => (by cases q), hA.2.1, hA.2.2.1, hA.2.2.2⟩ R5 ?_))
    cases hr2 : ev C.loose xh (upd σ1 v (.ref H1.length)) (H1 ++ [.exc c']) with
    | stuck => rw [hr2] at hP; exact hP
    | exc c2 H2 => rw [hr2] at hP; exact hP.elim
    | ok w H2 =>
      rw [hr2] at hP
      intro w' ρ2 s5 st6 R6 hw
      have st6' : Step (mine env) ρ s ρ2 s5 := st5'.trans st6.of_no
      obtain ⟨m, hm, _⟩ := R6.env.ns
      refine wpAny_nameGoes hk hm (by rw [R6.env.kind]; rfl) fun h7 m7 hn7 hs7 => ?_
      refine hP w' ρ2 _ ⟨st6'.ext, fun b o e hb ho => ?_, fun b o e => ?_⟩ (R6.toRelH.aside hs7.extBut R6.env.loc R6.env.new (.inr (let ⟨o, es, ep, ho, hd, _⟩ := hn7; ⟨o, es, ep, ho, hd⟩))) hw
      · obtain ⟨o1, e1, k1⟩ := st6'.keep b o e hb ho
        exact ⟨o1, (hs7.2 b fun q => ho (.inl q)).trans e1, k1⟩
      · obtain ⟨o1, e1⟩ := st6'.live b o e
        by_cases q : b = env.locals
        · subst q; obtain ⟨o', _, _, ho', _⟩ := hn7; exact ⟨o', ho'⟩
        · exact ⟨o1, (hs7.2 b q).trans e1⟩
end
end Mine

set_option autoImplicit false
set_option linter.unusedVariables false
namespace Mine
open PySem PyProof.Rows

noncomputable def isLC (sc : Scope) (n : Str) : Bool := decide (sc.names.lookup n = some .local) || decide (sc.names.lookup n = some .cell)

noncomputable def chkT (T : Tab) (sc : Scope) : List Nat → List Expr → Bool
  | [], [] => true
  | i :: is, .Name n _ :: ts => decide (T.vars[i]? = some n) && isLC sc n && chkT T sc is ts
  | _, _ => false

noncomputable def notTuple : Expr → Bool
  | .Tuple .. => false
  | _ => true

section
variable {W : Wd} {n : Lv} {env : Env} {C : Cx}

theorem assign_all {A : Around} {ρ : List Addr} {H : H} {E : Value → Shared → Prop} {sc : Scope} (hnd : W.T.vars.Nodup) (hsc : ∀ nm, isLC sc nm = true → env.kindOf nm = some .local ∨ env.kindOf nm = some .cell) :
    ∀ (is : List Nat) (ts : List Expr) (vs : List V) (xs : List Value) (σ : Sto) (s : Shared) (Q : Unit → Shared → Prop), chkT W.T sc is ts = true → VRs ρ vs xs → Rel W env ρ σ H s →
      (∀ s', Rel W env ρ (updL σ is vs) H s' → Step (mine env) ρ s ρ s' → Q () s') → wpAny (model W.prog W.w) A (assignInOrder ((assignEach ts env).map (·.2)) xs) Q E s
  | [], [], vs, xs, σ, s, Q, _, hv, hR, h => by
    rw [assignEach]
    simp only [List.map_nil, assignInOrder]
    refine wpAny_pure (h s ?_ (.refl ρ s))
    cases vs <;> exact hR
  | [], _ :: _, _, _, _, _, _, hc, _, _, _ => by simp [chkT] at hc
  | i :: is, ts, vs, xs, σ, s, Q, hc, hv, hR, h => by
    cases ts with
    | nil => simp [chkT] at hc
    | cons t ts =>
      cases t with
      | Name nm p =>
        simp only [chkT, Bool.and_eq_true, decide_eq_true_eq] at hc
        obtain ⟨⟨h1, h2⟩, h3⟩ := hc
        rw [show assignEach (.Name nm p :: ts) env = (false, assign (.Name nm p) env) :: assignEach ts env from rfl]
        cases hv with
        | nil =>
          simp only [List.map_cons, assignInOrder]
          exact wpAny_pure (h s hR (.refl ρ s))
        | @cons v x vs xs hx hxs =>
          simp only [List.map_cons, assignInOrder]
          refine wpAny_bind (wpAny_holding (wpAny_assign_Name (store_sound hnd hR h1 (hsc nm h2) hx fun s1 r1 st1 => ?_)))
          exact assign_all hnd hsc is ts vs xs (upd σ i v) s1 Q h3 hxs r1 fun s' r' st' => h s' r' ((st1.weaken fun b o e q => own_mine q).trans st')
      | _ => simp [chkT] at hc

theorem assignEach_len {T : Tab} {sc : Scope} : ∀ (is : List Nat) (ts : List Expr), chkT T sc is ts = true → (assignEach ts env).length = is.length ∧ (assignEach ts env).findIdx? (·.1) = none
  | [], [], _ => ⟨rfl, rfl⟩
  | [], _ :: _, hc => by simp [chkT] at hc
  | i :: is, ts, hc => by
    cases ts with
    | nil => simp [chkT] at hc
    | cons t ts =>
      cases t with
      | Name nm p =>
        simp only [chkT, Bool.and_eq_true] at hc
        have ih := assignEach_len is ts hc.2
        rw [show assignEach (.Name nm p :: ts) env = (false, assign (.Name nm p) env) :: assignEach ts env from rfl]
        exact ⟨by simp [ih.1], by simp [List.findIdx?_cons, ih.2]⟩
      | _ => simp [chkT] at hc

theorem simS_unpack {x : X} {e : Expr} {is : List Nat} {ts : List Expr} {k : Nat} {tp pos : Pos} {sc : Scope} (hcn : C.calm = n.calm) (hnd : W.T.vars.Nodup) (hsc : ∀ nm, isLC sc nm = true → env.kindOf nm = some .local ∨ env.kindOf nm = some .cell)
    (hx : Sim W n env VR (eval e env) (ev C x)) (hc : notComp e = true) (ht : notTuple e = true) (hts : chkT W.T sc is ts = true) : SimS W n env (exec (.Assign [.Tuple ts k tp] e pos) env) (ex C (.unpack is x)) := by
  intro A ρ σ H s Q E hA hR hP
  rw [ex] at hP
  refine Assign_Tuple (hx A ρ σ H s _ _ hA hR ?_) ?_ ?_
  · cases hr : ev C x σ H with
    | stuck => rw [hr] at hP; exact hP
    | exc c H1 => rw [hr] at hP; exact fun e ρ' s' st r => hP e ρ' s' st.of_no r
    | ok v H1 =>
      rw [hr] at hP
      dsimp only at hP
      cases hu : tupAt H1 v with
      | none => rw [hu] at hP; exact hP.elim
      | some vs =>
        rw [hu] at hP
        dsimp only at hP
        split at hP
        · rename_i hl'
          obtain ⟨hcalm, hl⟩ := hl'
          intro v' ρ1 s1 st1 r1 hv
          unfold tupAt at hu
          split at hu
          · rename_i i
            cases hv with
            | ref _ a hi =>
              split at hu
              · rename_i ws he
                cases hu
                obtain ⟨items, q, ho, r⟩ := r1.toRelH.tup hi he
                show wpAny _ A (do standAt tp; unpack (.ref a) (assignEach ts env)) _ E s1
                refine wpAny_bind (wpAny_standAt ?_)
                unfold unpack
                obtain ⟨al, af⟩ := assignEach_len (env := env) is ts hts
                have hlen := r.length
                simp only [Array.length_toList] at hlen
                rw [al, af, ← hl, hlen]
                refine wpAny_bind (wpAny_holding (wpAny_unpackItems_tuple (hA.1 (hcn ▸ hcalm)) ⟨_, ho, rfl, q, rfl⟩ fun h' he' => ?_))
                have keep : ∀ b o, s1.heap.get? b = some o → h'.get? b = some o := fun b o e => he' b o (Nat.ne_of_lt (Heap.lt_size e)) e
                refine assign_all hnd hsc is ts vs items.toList σ _ _ hts r (r1.grow (tk := s1.toks) keep) fun s2 r2 st2 => ?_
                exact hP ρ1 s2 ((st1.of_no.trans (Step.grow keep)).trans st2) r2
              · cases hu
          · cases hu
        · exact hP.elim
  · show swapsWith e (some (.Tuple ts k tp)) pos.line env = pure false
    exact swaps_false hc _ _
  · cases e <;> first | rfl | (exact absurd ht (by simp [notTuple]))

/-! the small form and the text -/

noncomputable def notSlice : Expr → Bool
  | .Slice .. => false
  | _ => true
noncomputable def isComp : X → Bool
  | .comp .. => true
  | _ => false
noncomputable def shape (x : X) (e : Expr) : Bool := notStar e && notSet e && notSlice e && (isComp x || notComp e)

theorem compOk_of {T : Tab} {sc outer : Scope} {tgt : Str} (h : compScopeOk sc outer = true) (h1 : sc.names.all (fun x => decide ((x.2 = .local ∨ x.2 = .cell) → x.1 = tgt ∨ x.1 ∉ T.vars)) = true)
    (h2 : (decide (sc.names.lookup tgt = some .local) || decide (sc.names.lookup tgt = some .cell)) = true) : CompOk T sc outer tgt := by
  simp only [compScopeOk, Bool.and_eq_true, decide_eq_true_eq, List.all_eq_true] at h
  obtain ⟨⟨⟨⟨⟨a, b⟩, c⟩, d⟩, _⟩, _⟩ := h
  simp only [List.all_eq_true, decide_eq_true_eq] at h1
  simp only [Bool.or_eq_true, decide_eq_true_eq] at h2
  exact ⟨a, b, c, d, h1, h2⟩

/-- an expression that the checker took -/
structure Ok (W : Wd) (n : Lv) (C : Cx) (x : X) (e : Expr) (env : Env) : Prop where
  v : Sim W n env VR (eval e env) (ev C x)
  t : SimT W n env C x e
  s : shape x e = true

theorem Ok.plain {x : X} {e : Expr} (h : Sim W n env VR (eval e env) (ev C x)) (hs : shape x e = true) (he : isTrue e env (eval e env) = (do let v ← eval e env; standAt e.pos; holding [v] (truthy v))) : Ok W n C x e env :=
  ⟨h, simT_plain h he, hs⟩
theorem Ok.star {x : X} {e : Expr} (h : Ok W n C x e env) : notStar e = true ∧ notSet e = true := by
  have := h.s; simp only [shape, Bool.and_eq_true] at this; exact ⟨this.1.1.1, this.1.1.2⟩
theorem Ok.slice {x : X} {e : Expr} (h : Ok W n C x e env) : ∀ l u st p, e ≠ .Slice l u st p := by
  have := h.s; simp only [shape, Bool.and_eq_true] at this
  rintro l u st p rfl
  cases this.1.2

noncomputable def SimR (W : Wd) (n : Lv) (C : Cx) (r : X → Scope → Expr → Bool) : Prop := ∀ x sc e env, r x sc e = true → ScOk env sc → Ok W n C x e env

theorem simL {r : X → Scope → Expr → Bool} (hr : SimR W n C r) {sc : Scope} (hsc : ScOk env sc) : ∀ (xs : List X) (es : List Expr), chkL r xs sc es = true → SimAll W n env C xs es ∧ SimTAll W n env C xs es
  | [], es, h => by
    rw [chkL, List.isEmpty_iff] at h; subst h; exact ⟨.nil, .nil⟩
  | x :: xs, [], h => by rw [chkL] at h; cases h
  | x :: xs, e :: es, h => by
    rw [chkL, Bool.and_eq_true] at h
    have o := hr x sc e env h.1 hsc
    have l := simL hr hsc xs es h.2
    exact ⟨.cons o.v o.star.1 o.star.2 l.1, .cons o.t l.2⟩

theorem simI {r : X → Scope → Expr → Bool} (hr : SimR W n C r) (B : Base W n C) {sc : Scope} (hsc : ScOk env sc) (it : It) (e : Expr) (h : chkI r it sc e = true) : SimIt W n env C it e := by
  unfold chkI at h
  cases it with
  | range args =>
    replace h := nameCall_inv h
    obtain ⟨m, as, p1, p, rfl, h⟩ := h
    simp only [Bool.and_eq_true, decide_eq_true_eq] at h
    obtain ⟨⟨rfl, h1⟩, h2⟩ := h
    exact simIt_range B hsc (simL hr hsc _ _ h2).1 h1
  | val x => exact simIt_val (hr x sc e env h hsc).v
  | rev x =>
    replace h := nameCall_inv h
    obtain ⟨m, as, p1, p, rfl, h⟩ := h
    simp only [Bool.and_eq_true, decide_eq_true_eq] at h
    obtain ⟨⟨rfl, h1⟩, h2⟩ := h
    exact simIt_rev B hsc (simL hr hsc _ _ h2).1 h1

/-- what a comprehension is -/
theorem comp_inv {r : X → Scope → Expr → Bool} (hr : SimR W n C r) (B : Base W n C) {sc : Scope} (hsc : ScOk env sc) {elt : X} {v : Nat} {it : It} {ifs : List X} {e : Expr} (h : chkComp W.T r elt v it ifs sc e = true) :
    ∃ elt' tgt px iter ifs' scope pos, e = .ListComp elt' [⟨.Name tgt px, iter, ifs', 0⟩] scope pos ∧ CompOk W.T scope sc tgt ∧ W.T.vars[v]? = some tgt ∧ notSet iter = true ∧ SimIt W n env C it iter ∧
      (∀ L, Sim W n (cenvOf scope env L) VR (eval elt' (cenvOf scope env L)) (ev C elt)) ∧ ∀ L, SimTAll W n (cenvOf scope env L) C ifs ifs' := by
  unfold chkComp at h
  replace h := oany h
  obtain ⟨⟨elt', gs, scope⟩, h1, h⟩ := h
  obtain ⟨p, rfl⟩ := asComp_inv h1
  dsimp only at h
  split at h
  · rename_i g
    obtain ⟨tg, iter, ifs', k⟩ := g
    simp only [Bool.and_eq_true, decide_eq_true_eq] at h
    obtain ⟨rfl, h⟩ := h
    replace h := oany h
    obtain ⟨tgt, h2, h⟩ := h
    obtain ⟨px, rfl⟩ := asName_inv h2
    simp only [Bool.and_eq_true, decide_eq_true_eq] at h
    obtain ⟨⟨⟨⟨⟨⟨⟨h1, h2⟩, h3⟩, h4⟩, h5⟩, h6⟩, h7⟩, h8⟩ := h
    exact ⟨elt', tgt, px, iter, ifs', scope, p, rfl, compOk_of h3 h4 h2, h1, h5, simI hr B hsc it iter h6, fun L => (hr elt scope elt' _ h8 cenv_scOk).v, fun L => (simL hr cenv_scOk ifs ifs' h7).2⟩
  · cases h

theorem sim_step {r : X → Scope → Expr → Bool} (hr : SimR W n C r) (B : Base W n C) : SimR W n C (chkX W.T r) := by
  intro x sc e env h hsc
  unfold chkX at h
  cases x with
  | none => obtain ⟨k, p, rfl⟩ := asConst_inv (of_decide_eq_true h); exact .plain (sim_none _ _) rfl rfl
  | bool b => obtain ⟨k, p, rfl⟩ := asConst_inv (of_decide_eq_true h); exact .plain (sim_bool _ _ _) rfl rfl
  | int i => obtain ⟨k, p, rfl⟩ := asConst_inv (of_decide_eq_true h); exact .plain (sim_int _ _ _) rfl rfl
  | str i => obtain ⟨k, p, rfl⟩ := asConst_inv (of_decide_eq_true h); exact .plain (sim_str _ _ _) rfl rfl
  | var i =>
    replace h := oany h
    obtain ⟨m, h1, h⟩ := h
    obtain ⟨p, rfl⟩ := asName_inv h1
    simp only [Bool.and_eq_true, decide_eq_true_eq] at h
    exact .plain (sim_var hsc h.1.1 h.1.2 h.2) rfl rfl
  | glob i =>
    replace h := oany h
    obtain ⟨m, h1, h⟩ := h
    obtain ⟨p, rfl⟩ := asName_inv h1
    simp only [Bool.and_eq_true, decide_eq_true_eq] at h
    exact .plain (sim_glob B hsc h.1.1 h.1.2 h.2) rfl rfl
  | bin op a b =>
    replace h := oany h
    obtain ⟨⟨l, o, r'⟩, h1, h⟩ := h
    obtain ⟨p, rfl⟩ := asBin_inv h1
    simp only [Bool.and_eq_true, decide_eq_true_eq] at h
    obtain ⟨⟨rfl, h2⟩, h3⟩ := h
    exact .plain (sim_bin (hr a sc l env h2 hsc).v (hr b sc r' env h3 hsc).v fun A ρ σ H s Q E x y x' y' hA hR hx hy hP => bin_sound hA hR hx hy hP) rfl rfl
  | neg a =>
    replace h := oany h
    obtain ⟨⟨o, l⟩, h1, h⟩ := h
    obtain ⟨p, rfl⟩ := asUn_inv h1
    simp only [Bool.and_eq_true, decide_eq_true_eq] at h
    obtain ⟨rfl, h2⟩ := h
    exact .plain (sim_neg (hr a sc l env h2 hsc).v) rfl rfl
  | not a =>
    replace h := oany h
    obtain ⟨⟨o, l⟩, h1, h⟩ := h
    obtain ⟨p, rfl⟩ := asUn_inv h1
    simp only [Bool.and_eq_true, decide_eq_true_eq] at h
    obtain ⟨rfl, h2⟩ := h
    have o := hr a sc l env h2 hsc
    exact ⟨sim_not o.v, simT_not o.t, rfl⟩
  | bop op es =>
    replace h := oany h
    obtain ⟨⟨o, l⟩, h1, h⟩ := h
    obtain ⟨p, rfl⟩ := asBool_inv h1
    simp only [Bool.and_eq_true, decide_eq_true_eq] at h
    obtain ⟨rfl, h2⟩ := h
    have o := simL hr hsc es l h2
    refine ⟨fun A ρ σ H s Q E hA hR hP => ?_, fun A ρ σ H s Q E hA hR hP => ?_, rfl⟩
    · rw [ev] at hP
      exact sim_bop o.1 A ρ σ H s Q E hA hR hP
    · rw [evTr, ev] at hP
      cases es with
      | nil => rw [evB] at hP; exact hP.elim
      | cons y ys => exact simT_bop o.2 A ρ σ H s Q E _ hA hR (by simp) hP
  | ite t a b =>
    replace h := oany h
    obtain ⟨⟨t', a', b'⟩, h1, h⟩ := h
    obtain ⟨p, rfl⟩ := asIf_inv h1
    simp only [Bool.and_eq_true] at h
    have o1 := hr t sc t' env h.1.1 hsc
    have o2 := hr a sc a' env h.1.2 hsc
    have o3 := hr b sc b' env h.2 hsc
    exact ⟨sim_ite o1.t o2.v o3.v, simT_ite o1.t o2.t o3.t, rfl⟩
  | cmp a ops bs =>
    replace h := oany h
    obtain ⟨⟨l, o, rs⟩, h1, h⟩ := h
    obtain ⟨p, rfl⟩ := asCmp_inv h1
    simp only [Bool.and_eq_true, decide_eq_true_eq] at h
    obtain ⟨⟨⟨rfl, hl⟩, h2⟩, h3⟩ := h
    have o1 := hr a sc l env h2 hsc
    have o2 := (simL hr hsc bs rs h3).1
    exact ⟨sim_cmp o1.v o2 hl, simT_cmp o1.v o2 hl, rfl⟩
  | call f args =>
    replace h := nameCall_inv h
    obtain ⟨m, as, p1, p, rfl, h⟩ := h
    simp only [Bool.and_eq_true, decide_eq_true_eq] at h
    obtain ⟨⟨⟨h1, h2⟩, h3⟩, h4⟩ := h
    exact .plain (sim_call B hsc (simL hr hsc args as h4).1 h1 h2 h3) rfl rfl
  | bi b args =>
    replace h := nameCall_inv h
    obtain ⟨m, as, p1, p, rfl, h⟩ := h
    simp only [Bool.and_eq_true, decide_eq_true_eq] at h
    obtain ⟨⟨rfl, h2⟩, h4⟩ := h
    exact .plain (sim_bi B hsc (simL hr hsc args as h4).1 h2) rfl rfl
  | isi a t =>
    replace h := nameCall_inv h
    obtain ⟨m, as, p1, p, rfl, h⟩ := h
    simp only [Bool.and_eq_true, decide_eq_true_eq] at h
    obtain ⟨⟨rfl, h1⟩, h⟩ := h
    split at h
    · rename_i a' c'
      simp only [Bool.and_eq_true] at h
      obtain ⟨h2, h⟩ := h
      replace h := oany h
      obtain ⟨c, h3, h⟩ := h
      obtain ⟨p2, rfl⟩ := asName_inv h3
      simp only [Bool.and_eq_true, decide_eq_true_eq] at h
      have o := hr a sc a' env h2 hsc
      exact .plain (sim_isi B hsc o.v o.star.1 h1 h.1.1 h.1.2 h.2) rfl rfl
    · cases h
  | meth m o args =>
    replace h := oany h
    obtain ⟨⟨g, as, ks, p⟩, h1, h⟩ := h
    obtain rfl := asCall_inv h1
    simp only [Bool.and_eq_true, List.isEmpty_iff] at h
    obtain ⟨rfl, h⟩ := h
    replace h := oany h
    obtain ⟨⟨o', nm, ap⟩, h2, h⟩ := h
    obtain rfl := asAttr_inv h2
    simp only [Bool.and_eq_true, decide_eq_true_eq] at h
    obtain ⟨⟨⟨⟨⟨rfl, g1⟩, g2⟩, g3⟩, g4⟩, g5⟩ := h
    exact .plain (sim_meth (hr o sc o' env g4 hsc).v g1 g2 g3 (simL hr hsc args as g5).1) rfl rfl
  | sub o i =>
    replace h := oany h
    obtain ⟨⟨o', i'⟩, h1, h⟩ := h
    obtain ⟨p, rfl⟩ := asSub_inv h1
    simp only [Bool.and_eq_true] at h
    have q := hr i sc i' env h.2 hsc
    exact .plain (sim_sub (hr o sc o' env h.1 hsc).v q.v q.slice) rfl rfl
  | list es =>
    replace h := oany h
    obtain ⟨l, h1, h⟩ := h
    obtain ⟨p, rfl⟩ := asList_inv h1
    exact .plain (sim_list (simL hr hsc es l h).1) rfl rfl
  | tup es =>
    replace h := oany h
    obtain ⟨l, h1, h⟩ := h
    obtain ⟨k, p, rfl⟩ := asTup_inv h1
    exact .plain (sim_tup (simL hr hsc es l h).1) rfl rfl
  | dict0 =>
    replace h := oany h
    obtain ⟨⟨ks, vs⟩, h1, h⟩ := h
    obtain ⟨p, rfl⟩ := asDict_inv h1
    simp only [Bool.and_eq_true, List.isEmpty_iff] at h
    obtain ⟨rfl, rfl⟩ := h
    exact .plain sim_dict0 rfl rfl
  | lrange args =>
    replace h := nameCall_inv h
    obtain ⟨m, as, p1, p, rfl, h⟩ := h
    simp only [Bool.and_eq_true, decide_eq_true_eq] at h
    obtain ⟨⟨rfl, h1⟩, h⟩ := h
    split at h
    · replace h := nameCall_inv h
      obtain ⟨m2, as2, p3, p4, rfl, h⟩ := h
      simp only [Bool.and_eq_true, decide_eq_true_eq] at h
      obtain ⟨⟨rfl, h2⟩, h3⟩ := h
      exact .plain (sim_lrange B hsc (simL hr hsc args as2 h3).1 h2 h1) rfl rfl
    · cases h
  | slice i lo hi st =>
    replace h := oany h
    obtain ⟨⟨o', i'⟩, h1, h⟩ := h
    obtain ⟨p, rfl⟩ := asSub_inv h1
    replace h := oany h
    obtain ⟨m, h2, h⟩ := h
    obtain ⟨np, q1⟩ := asName_inv h2
    have q1' : o' = .Name m np := q1
    subst q1'
    simp only [Bool.and_eq_true, decide_eq_true_eq] at h
    obtain ⟨⟨⟨g1, g2⟩, g3⟩, h⟩ := h
    replace h := oany h
    obtain ⟨⟨l, u, k⟩, h3, h⟩ := h
    obtain ⟨sp, q2⟩ := asSlice_inv h3
    have q2' : i' = .Slice l u k sp := q2
    subst q2'
    simp only [Bool.and_eq_true] at h
    have part : ∀ {x : X} {o : Option Expr}, chkO r x sc o = true → Sim W n env VR (evalPart o env) (ev C x) := fun {x o} q => by
      cases o with
      | none => exact sim_part (.inl ⟨rfl, by cases x <;> first | rfl | cases q⟩)
      | some e => exact sim_part (.inr ⟨e, rfl, (hr x sc e env q hsc).v⟩)
    exact .plain (sim_slice hsc g1 g2 g3 (part h.1.1) (part h.1.2) (part h.2)) rfl rfl
  | comp elt v it ifs =>
    obtain ⟨elt', tgt, px, iter, ifs', scope, pos, rfl, ok, h1, h2, h3, h4, h5⟩ := comp_inv hr B hsc h
    exact .plain (sim_comp B.calm B.nd hsc ok h1 h2 h3 h4 h5) rfl rfl

theorem sim_all (B : Base W n C) : ∀ k, SimR W n C (chk W.T k)
  | 0 => fun x sc e env h _ => by cases h
  | k + 1 => sim_step (sim_all B k) B
end
end Mine

set_option autoImplicit false
set_option linter.unusedVariables false
namespace Mine
open PySem PyProof.Rows

section
variable {W : Wd} {n : Lv} {env : Env} {C : Cx}

/-! statements -/
noncomputable def asAssign_v (s : Stmt) : Option {c : (List Expr × Expr × Pos) // s = .Assign c.1 c.2.1 c.2.2} := match s with
  | .Assign ts e p => some ⟨(ts, e, p), rfl⟩
  | _ => none
noncomputable def asAssign (s : Stmt) : Option (List Expr × Expr × Pos) := (asAssign_v s).map (·.1)
noncomputable def asExpr_v (s : Stmt) : Option {c : Expr // ∃ p, s = .Expr c p} := match s with
  | .Expr e _ => some ⟨e, ⟨_, rfl⟩⟩
  | _ => none
noncomputable def asExpr (s : Stmt) : Option Expr := (asExpr_v s).map (·.1)
noncomputable def asIfS_v (s : Stmt) : Option {c : (Expr × List Stmt × List Stmt) // ∃ p, s = .If c.1 c.2.1 c.2.2 p} := match s with
  | .If t a b _ => some ⟨(t, a, b), ⟨_, rfl⟩⟩
  | _ => none
noncomputable def asIfS (s : Stmt) : Option (Expr × List Stmt × List Stmt) := (asIfS_v s).map (·.1)
noncomputable def asFor_v (s : Stmt) : Option {c : (Expr × Expr × List Stmt × List Stmt) // ∃ p, s = .For c.1 c.2.1 c.2.2.1 c.2.2.2 p} := match s with
  | .For t i b o _ => some ⟨(t, i, b, o), ⟨_, rfl⟩⟩
  | _ => none
noncomputable def asFor (s : Stmt) : Option (Expr × Expr × List Stmt × List Stmt) := (asFor_v s).map (·.1)
noncomputable def asRet_v (s : Stmt) : Option {c : (Option Expr) // ∃ p, s = .Return c p} := match s with
  | .Return e _ => some ⟨e, ⟨_, rfl⟩⟩
  | _ => none
noncomputable def asRet (s : Stmt) : Option (Option Expr) := (asRet_v s).map (·.1)
noncomputable def asRaise_v (s : Stmt) : Option {c : (Option Expr × Option Expr) // ∃ p, s = .Raise c.1 c.2 p} := match s with
  | .Raise e c _ => some ⟨(e, c), ⟨_, rfl⟩⟩
  | _ => none
noncomputable def asRaise (s : Stmt) : Option (Option Expr × Option Expr) := (asRaise_v s).map (·.1)
noncomputable def asTry_v (s : Stmt) : Option {c : (List Stmt × List ExceptHandler × List Stmt × List Stmt) // ∃ p, s = .Try c.1 c.2.1 c.2.2.1 c.2.2.2 p} := match s with
  | .Try b h o f _ => some ⟨(b, h, o, f), ⟨_, rfl⟩⟩
  | _ => none
noncomputable def asTry (s : Stmt) : Option (List Stmt × List ExceptHandler × List Stmt × List Stmt) := (asTry_v s).map (·.1)
theorem asAssign_inv {s : Stmt} {c} (h : asAssign s = some c) : s = .Assign c.1 c.2.1 c.2.2 := map_inv (o := asAssign_v s) h
theorem asExpr_inv {s : Stmt} {c} (h : asExpr s = some c) : ∃ p, s = .Expr c p := map_inv (o := asExpr_v s) h
theorem asIfS_inv {s : Stmt} {c} (h : asIfS s = some c) : ∃ p, s = .If c.1 c.2.1 c.2.2 p := map_inv (o := asIfS_v s) h
theorem asFor_inv {s : Stmt} {c} (h : asFor s = some c) : ∃ p, s = .For c.1 c.2.1 c.2.2.1 c.2.2.2 p := map_inv (o := asFor_v s) h
theorem asRet_inv {s : Stmt} {c} (h : asRet s = some c) : ∃ p, s = .Return c p := map_inv (o := asRet_v s) h
theorem asRaise_inv {s : Stmt} {c} (h : asRaise s = some c) : ∃ p, s = .Raise c.1 c.2 p := map_inv (o := asRaise_v s) h
theorem asTry_inv {s : Stmt} {c} (h : asTry s = some c) : ∃ p, s = .Try c.1 c.2.1 c.2.2.1 c.2.2.2 p := map_inv (o := asTry_v s) h

noncomputable def fuel : Nat := 60
noncomputable def isStr : Expr → Bool := fun e => (asConst e).any fun c => match c with | .str _ => true | _ => false
theorem isStr_inv {e : Expr} (h : isStr e = true) : ∃ m k p, e = .Constant (.str m) k p := by
  replace h := oany h
  obtain ⟨c, h1, h2⟩ := h
  obtain ⟨k, p, rfl⟩ := asConst_inv h1
  split at h2
  · exact ⟨_, k, p, rfl⟩
  · cases h2

noncomputable def chkH (T : Tab) (c v : Nat) (xh : X) (sc : Scope) : List ExceptHandler → Bool
  | [.ExceptHandler (some t) (some tgt) [st] _] => (asName t).any fun nm => decide (clsName T c = some nm) && isG sc nm && okName nm && decide (T.vars[v]? = some tgt) && decide (sc.names.lookup tgt = some .local) && (asRet st).any fun r => r.any fun e => chk T fuel xh sc e
  | _ => false
theorem chkH_inv {T : Tab} {c v : Nat} {xh : X} {sc : Scope} {hs : List ExceptHandler} (h : chkH T c v xh sc hs = true) : ∃ nm np tgt eh rp hp, hs = [.ExceptHandler (some (.Name nm np)) (some tgt) [.Return (some eh) rp] hp] ∧
    clsName T c = some nm ∧ isG sc nm = true ∧ okName nm = true ∧ T.vars[v]? = some tgt ∧ sc.names.lookup tgt = some .local ∧ chk T fuel xh sc eh = true := by
  unfold chkH at h
  split at h
  · replace h := oany h
    obtain ⟨nm, h1, h2⟩ := h
    obtain ⟨np, rfl⟩ := asName_inv h1
    simp only [Bool.and_eq_true, decide_eq_true_eq] at h2
    obtain ⟨⟨⟨⟨⟨a1, a2⟩, a3⟩, a4⟩, a5⟩, h3⟩ := h2
    obtain ⟨r, h4, h5⟩ := oany h3
    obtain ⟨eh, rfl, h6⟩ := oany h5
    obtain ⟨rp, rfl⟩ := asRet_inv h4
    exact ⟨nm, np, _, eh, rp, _, rfl, a1, a2, a3, a4, a5, h6⟩
  · cases h

noncomputable def chkS (T : Tab) (r : List S → Scope → List Stmt → Bool) (x : S) (sc : Scope) (s : Stmt) : Bool := match x with
  | .assign i x => (asAssign s).any fun q => match q.1 with
    | [t] => (asName t).any fun n => decide (T.vars[i]? = some n) && isLC sc n && chk T fuel x sc q.2.1
    | _ => false
  | .unpack is x => (asAssign s).any fun q => match q.1 with
    | [t] => (asTup t).any fun ts => chkT T sc is ts && notComp q.2.1 && notTuple q.2.1 && chk T fuel x sc q.2.1
    | _ => false
  | .expr x => (asExpr s).any fun e => notComp e && chk T fuel x sc e
  | .ite t a b => (asIfS s).any fun q => chk T fuel t sc q.1 && r a sc q.2.1 && r b sc q.2.2
  | .for v it body => (asFor s).any fun q => q.2.2.2.isEmpty && (asName q.1).any fun n => decide (T.vars[v]? = some n) && isLC sc n && notSet q.2.1 && chkI (chk T fuel) it sc q.2.1 && r body sc q.2.2.1
  | .ret x => (asRet s).any fun e => e.any fun e => chk T fuel x sc e
  | .raise c => (asRaise s).any fun q => q.2.isNone && q.1.any fun e => nameCall e fun nm as => decide (clsName T c = some nm) && isG sc nm && okName nm && (match as with | [m] => isStr m | _ => false)
  | .try body c v xh => (asTry s).any fun q => r body sc q.1 && chkH T c v xh sc q.2.1 && q.2.2.1.isEmpty && q.2.2.2.isEmpty
  | .dead => true
noncomputable def chkSs (T : Tab) : Nat → List S → Scope → List Stmt → Bool
  | 0 => fun _ _ _ => false
  | k + 1 => fun xs sc ss => match xs with
    | [] => ss.isEmpty
    | x :: xs => match ss with
      | s :: ss => chkS T (chkSs T k) x sc s && chkSs T k xs sc ss
      | [] => false

section
variable {outer : List Env} (B : Base W n C) {sc : Scope} (hsc : ScOk env sc) (hlc : ∀ nm, isLC sc nm = true → env.kindOf nm = some .local ∨ env.kindOf nm = some .cell) (hW : W.fr = env :: outer) (hf : env.frame = some env.locals)
include B hsc hlc hW hf

theorem simStm {r : List S → Scope → List Stmt → Bool} (hr : ∀ xs sts, r xs sc sts = true → SimS W n env (execs sts env) (exs C xs)) (x : S) (st : Stmt) (h : chkS W.T r x sc st = true) : SimS W n env (exec st env) (ex C x) := by
  have sm := sim_all B fuel
  unfold chkS at h
  cases x with
  | assign i x =>
    replace h := oany h
    obtain ⟨⟨ts, e, p⟩, h1, h⟩ := h
    obtain rfl := asAssign_inv h1
    dsimp only at h
    split at h
    · replace h := oany h
      obtain ⟨m, h2, h⟩ := h
      obtain ⟨p2, rfl⟩ := asName_inv h2
      simp only [Bool.and_eq_true, decide_eq_true_eq] at h
      obtain ⟨⟨j1, j2⟩, h3⟩ := h
      have o := sm x sc e env h3 hsc
      have hs := o.s
      simp only [shape, Bool.and_eq_true, Bool.or_eq_true] at hs
      rcases hs.2 with hs | hs
      · cases x with
        | comp elt v it ifs =>
          obtain ⟨elt', tgt, px, iter, ifs', scope, pos, rfl, ok, g1, g2, g3, g4, g5⟩ := comp_inv (sim_all B 59) B hsc h3
          exact simS_assignComp B.calm B.nd hsc ok g1 g2 g3 g4 g5 j1 (hlc _ j2)
        | _ => cases hs
      · exact simS_assign B.nd o.v hs j1 (hlc _ j2)
    · cases h
  | unpack is x =>
    replace h := oany h
    obtain ⟨⟨ts, e, p⟩, h1, h⟩ := h
    obtain rfl := asAssign_inv h1
    dsimp only at h
    split at h
    · replace h := oany h
      obtain ⟨m, h2, h⟩ := h
      obtain ⟨k, p2, rfl⟩ := asTup_inv h2
      simp only [Bool.and_eq_true] at h
      obtain ⟨⟨⟨h1, h2⟩, h3⟩, h4⟩ := h
      exact simS_unpack B.calm B.nd hlc (sm x sc e env h4 hsc).v h2 h3 h1
    · cases h
  | expr x =>
    replace h := oany h
    obtain ⟨e, h1, h⟩ := h
    obtain ⟨p, rfl⟩ := asExpr_inv h1
    simp only [Bool.and_eq_true] at h
    exact simS_expr (sm x sc e env h.2 hsc).v h.1
  | ite t a b =>
    replace h := oany h
    obtain ⟨⟨t', a', b'⟩, h1, h⟩ := h
    obtain ⟨p, rfl⟩ := asIfS_inv h1
    simp only [Bool.and_eq_true] at h
    exact simS_ite (sm t sc t' env h.1.1 hsc).t (hr a a' h.1.2) (hr b b' h.2)
  | «for» v it body =>
    replace h := oany h
    obtain ⟨⟨t, i, b, o⟩, h1, h⟩ := h
    obtain ⟨p, rfl⟩ := asFor_inv h1
    simp only [Bool.and_eq_true, List.isEmpty_iff] at h
    obtain ⟨rfl, h⟩ := h
    replace h := oany h
    obtain ⟨m, h2, h⟩ := h
    obtain ⟨p2, rfl⟩ := asName_inv h2
    simp only [Bool.and_eq_true, decide_eq_true_eq] at h
    obtain ⟨⟨⟨⟨h1, h2⟩, h3⟩, h4⟩, h5⟩ := h
    exact simS_for B.calm B.nd h1 (hlc _ h2) h3 (simI sm B hsc it i h4) (hr body b h5)
  | ret x =>
    replace h := oany h
    obtain ⟨e, h1, h⟩ := h
    replace h := oany h
    obtain ⟨e, rfl, h⟩ := h
    obtain ⟨p, rfl⟩ := asRet_inv h1
    exact simS_ret (sm x sc e env h hsc).v
  | raise c =>
    replace h := oany h
    obtain ⟨⟨e, q⟩, h1, h⟩ := h
    obtain ⟨p, rfl⟩ := asRaise_inv h1
    simp only [Bool.and_eq_true, Option.isNone_iff_eq_none] at h
    obtain ⟨rfl, h⟩ := h
    replace h := oany h
    obtain ⟨e, rfl, h⟩ := h
    replace h := nameCall_inv h
    obtain ⟨m, as, p1, p2, rfl, h⟩ := h
    simp only [Bool.and_eq_true, decide_eq_true_eq] at h
    obtain ⟨⟨⟨j1, j2⟩, j3⟩, h⟩ := h
    split at h
    · obtain ⟨msg, k, p3, rfl⟩ := isStr_inv h
      exact simS_raise B hsc j1 j2 j3
    · cases h
  | «try» body c v xh =>
    replace h := oany h
    obtain ⟨⟨b, hs, o, f⟩, h1, h⟩ := h
    obtain ⟨p, rfl⟩ := asTry_inv h1
    simp only [Bool.and_eq_true, List.isEmpty_iff] at h
    obtain ⟨⟨⟨j1, j2⟩, rfl⟩, rfl⟩ := h
    obtain ⟨nm, np, tgt, eh, rp, hp, rfl, a1, a2, a3, a4, a5, a6⟩ := chkH_inv j2
    exact simS_try B hsc hW hf (hr body b j1) (sim_all B.loose fuel xh sc eh env a6 hsc).v a1 a2 a3 a4 (hsc.loc _ a5)
  | dead =>
    intro A ρ σ H s Q E hA hR hP
    rw [ex] at hP
    exact hP.elim
theorem simStms : ∀ (k : Nat) (xs : List S) (sts : List Stmt), chkSs W.T k xs sc sts = true → SimS W n env (execs sts env) (exs C xs)
  | 0, _, _, h => by cases h
  | k + 1, [], sts, h => by
    have h' : sts.isEmpty = true := h
    rw [List.isEmpty_iff] at h'; subst h'; exact simS_nil
  | k + 1, x :: xs, [], h => by cases h
  | k + 1, x :: xs, st :: sts, h => by
    have h' := Bool.and_eq_true_iff.mp h
    exact simS_cons (simStm B hsc hlc hW hf (simStms k) x st h'.1) (simStms k xs sts h'.2)
end

/-! a def -/

structure Def where
  ps : List Nat
  body : List S

noncomputable def runDef (C : Cx) (d : Def) (args : List V) (H : H) : R V :=
  if args.length = d.ps.length then
    match exs C d.body (updL noSto d.ps args) H with
    | .ret v h => .ok v h
    | .next _ h => .ok .none h
    | .exc c _ h => .exc c h
    | .stuck => .stuck
  else .stuck

noncomputable def chkP (T : Tab) (sc : Scope) : List Nat → List Str → Bool
  | [], [] => true
  | i :: is, n :: ns => decide (T.vars[i]? = some n) && isLC sc n && chkP T sc is ns
  | _, _ => false

theorem chkP_len {T : Tab} {sc : Scope} : ∀ {is : List Nat} {ns : List Str}, chkP T sc is ns = true → is.length = ns.length
  | [], [], _ => rfl
  | [], _ :: _, h => by simp [chkP] at h
  | _ :: _, [], h => by simp [chkP] at h
  | i :: is, n :: ns, h => by
    simp only [chkP, Bool.and_eq_true] at h
    simp [chkP_len h.2]
theorem chkP_mem {T : Tab} {sc : Scope} : ∀ {is : List Nat} {ns : List Str}, chkP T sc is ns = true → ∀ x ∈ ns, isLC sc x = true
  | [], [], _, x, hx => nomatch hx
  | [], _ :: _, h, _, _ => by simp [chkP] at h
  | _ :: _, [], h, _, _ => by simp [chkP] at h
  | i :: is, n :: ns, h, x, hx => by
    simp only [chkP, Bool.and_eq_true] at h
    rcases List.mem_cons.mp hx with rfl | hx
    · exact h.1.2
    · exact chkP_mem h.2 x hx

noncomputable def InvL (T : Tab) (ρ : List Addr) (k : Str → Option NameKind) (p : NameKind → Bool) (m : Str → Option Value) (σ : Sto) : Prop :=
  ∀ i v n kk, σ i = some v → T.vars[i]? = some n → k n = some kk → p kk = true → ∃ x, m n = some x ∧ VR ρ v x

theorem bind_rel {T : Tab} {ρ : List Addr} {sc : Scope} {k : Str → Option NameKind} (hnd : T.vars.Nodup) (hk : ∀ nm, isLC sc nm = true → k nm = some .local ∨ k nm = some .cell) :
    ∀ (is : List Nat) (ns : List Str) (args : List V) (vals : List Value) (σ : Sto) (m cm : Str → Option Value), chkP T sc is ns = true → VRs ρ args vals →
      InvL T ρ k (· == .local) m σ → InvL T ρ k (· == .cell) cm σ →
      InvL T ρ k (· == .local) (bindL k (ns.zip vals) m) (updL σ is args) ∧ InvL T ρ k (· == .cell) (bindC k (ns.zip vals) cm) (updL σ is args)
  | [], [], args, vals, σ, m, cm, _, _, h1, h2 => ⟨h1, h2⟩
  | [], _ :: _, _, _, _, _, _, h, _, _, _ => by simp [chkP] at h
  | _ :: _, [], _, _, _, _, _, h, _, _, _ => by simp [chkP] at h
  | i :: is, n :: ns, args, vals, σ, m, cm, h, hv, h1, h2 => by
    simp only [chkP, Bool.and_eq_true, decide_eq_true_eq] at h
    obtain ⟨⟨ha, hb⟩, hc⟩ := h
    cases hv with
    | nil => exact ⟨h1, h2⟩
    | @cons v x vs xs hx hxs =>
      rw [List.zip_cons_cons, bindL, bindC, updL]
      refine bind_rel hnd hk is ns vs xs _ _ _ hc hxs ?_ ?_
      · intro j w nm kk e1 e2 e3 e4
        have e4' : kk = .local := by simpa using e4
        subst e4'
        unfold upd at e1
        split at e1
        · rename_i hj
          subst hj
          rw [ha] at e2
          cases e1; cases e2
          rw [if_pos e3]
          exact ⟨x, by simp, hx⟩
        · rename_i hj
          have hne : nm ≠ n := fun q => hj (nodup_inj hnd e2 (q ▸ ha))
          obtain ⟨y, g1, g2⟩ := h1 j w nm .local e1 e2 e3 rfl
          refine ⟨y, ?_, g2⟩
          split
          · simp only [if_neg hne]; exact g1
          · exact g1
      · intro j w nm kk e1 e2 e3 e4
        have e4' : kk = .cell := by simpa using e4
        subst e4'
        unfold upd at e1
        split at e1
        · rename_i hj
          subst hj
          rw [ha] at e2
          cases e1; cases e2
          rw [if_neg (by rw [e3]; decide)]
          exact ⟨x, by simp, hx⟩
        · rename_i hj
          have hne : nm ≠ n := fun q => hj (nodup_inj hnd e2 (q ▸ ha))
          obtain ⟨y, g1, g2⟩ := h2 j w nm .cell e1 e2 e3 rfl
          refine ⟨y, ?_, g2⟩
          split
          · exact g1
          · simp only [if_neg hne]; exact g1

noncomputable def scopeOk (sc : Scope) : Bool :=
  sc.names.all (fun x => decide (x.2 ≠ .free)) && !sc.isCoroutine && !sc.isGenerator && decide (sc.kind = .function)

structure DefOk (T : Tab) (d : Def) (fd : FuncData) (names : List Str) (body : List Stmt) : Prop where
  bd : fd.body = .stmts body
  glob : fd.globals = mainGlobals
  blt : fd.builtins = builtinsNs
  clo : fd.closure = []
  sc : scopeOk fd.scope = true
  ps : chkP T fd.scope d.ps names = true
  bind : ∀ vals : List Value, vals.length = names.length → bindArgs fd ⟨vals, []⟩ = pure (names.zip vals)
  chk : chkSs T fuel d.body fd.scope body = true

theorem lookup_mem_isSome {sc : Scope} {L : Nat} {nm : Str} (h : sc.names.lookup nm = some .cell) : ∃ c : Nat, (cellsFrom L sc.names []).lookup nm = some c := by
  have cl := cellsAt sc.names { (default : Heap) with objs := Array.replicate L default } [] (by simp)
  have e : ({ (default : Heap) with objs := Array.replicate L default } : Heap).objs.size = L := by simp
  rw [e] at cl
  obtain ⟨c, a1, _⟩ := cl.1.1 nm (mem_of_lookup h)
  exact ⟨c, a1⟩

theorem OR.fr {W W' : Wd} {ρ : List Addr} {h : Heap} {a : Addr} {o : O} (hc : W.cls = W'.cls) (x : OR W ρ h a o) : OR W' ρ h a o := by
  cases o with
  | exc c => obtain ⟨o, C, h1, h2, h3⟩ := x; exact ⟨o, C, h1, hc ▸ h2, h3⟩
  | _ => exact x
theorem RelH.fr {W : Wd} {l : List Env} {ρ : List Addr} {H : H} {s : Shared} (x : RelH { W with fr := l } ρ H s) (hs : ∀ e ∈ W.fr, e ∈ l) : RelH W ρ H s :=
  ⟨fun e he => x.frs e (hs e he), x.keep, x.os, x.gens, ⟨x.heap.len, fun i o e => let ⟨a, h1, h2⟩ := x.heap.obj i o e; ⟨a, h1, OR.fr rfl h2⟩⟩, x.nodup, x.new⟩

theorem call_sound {fa : Addr} {o : Obj} {fd : FuncData} {d : Def} {names : List Str} {body : List Stmt} (B : ∀ l, Base { W with fr := l } n C) (ho : W.h₀.get? fa = some o) (hd : o.data = .func fd) (hcd : W.h₀.CodeRec fd.code fd.qualname) (D : DefOk W.T d fd names body)
    (args : List V) (H : H) : CallSim W ⟨n.d + 1, n.calm⟩ fa args H (runDef C d args H) := by
  intro A ρ s Q E vals hA hR hv hP
  unfold runDef at hP
  split at hP
  · rename_i hlen
    obtain ⟨hh, hdep, hun, hfs⟩ := hA
    have hdep' : A.depth + (n.d + 1) < 900 := hdep
    have hun' : A.units + 8 * (n.d + 1) + 200 < 9000 := hun
    have hsc := D.sc
    simp only [scopeOk, Bool.and_eq_true, List.all_eq_true, decide_eq_true_eq, Bool.not_eq_true'] at hsc
    obtain ⟨⟨⟨nofree, hco⟩, hgen⟩, hkind⟩ := hsc
    have vl : vals.length = names.length := by rw [← hv.length, hlen, chkP_len D.ps]
    have kof : ∀ nm, (callEnvC fd s.heap.objs.size fa).kindOf nm = fd.scope.names.lookup nm := fun _ => rfl
    have hlc : ∀ nm, isLC fd.scope nm = true → (callEnvC fd s.heap.objs.size fa).kindOf nm = some .local ∨ (callEnvC fd s.heap.objs.size fa).kindOf nm = some .cell := fun nm h => by
      simpa [isLC, kof] using h
    refine wpAny_call (codeAny_call_cells (hroom := by unfold recursionLimit; omega) (hR.keep _ _ ho) hd ((B []).nolim.keeps hR.keep) (hcd.keeps hR.keep) D.bd (D.bind vals vl) D.clo ?_ ?_ hco hgen hkind)
    · intro x hx
      have hm : x.1 ∈ names := (List.of_mem_zip (a := x.1) (b := x.2) hx).1
      have := chkP_mem D.ps _ hm
      simp only [isLC, Bool.or_eq_true, decide_eq_true_eq] at this
      rcases this with h | h
      · exact .inl h
      · obtain ⟨c, hc⟩ := lookup_mem_isSome (L := s.heap.objs.size + 1) h
        exact .inr ⟨h, by rw [hc]; rfl⟩
    · intro s₁ x
      have keep : ∀ b o, s.heap.get? b = some o → s₁.heap.get? b = some o := x.toInCall.keep
      have envs : (callEnvC fd s.heap.objs.size fa).locals = s.heap.objs.size := rfl
      have freshAt : ∀ c : Nat, s.heap.objs.size ≤ c → c ∉ ρ ∧ W.h₀.get? c = none := fun c hc => hR.fresh (Heap.get?_none_of_le hc)
      have above : ∀ nm (c : Nat), (callEnvC fd s.heap.objs.size fa).cells.lookup nm = some c → s.heap.objs.size < c := fun nm c e => x.above nm c (mem_of_lookup e)
      obtain ⟨bl, bc⟩ := bind_rel (ρ := ρ) (k := (callEnvC fd s.heap.objs.size fa).kindOf) (B []).nd hlc d.ps names args vals noSto (fun _ => none) (fun _ => none) D.ps hv (fun i v nm kk e => by simp [noSto] at e) (fun i v nm kk e => by simp [noSto] at e)
      have hs0 : RelH W ρ H s₁ := by
        obtain ⟨h1, tk, rfl⟩ := x.toInCall.same
        exact hR.grow (tk := tk) keep
      have hs1 : RelH { W with fr := callEnvC fd s.heap.objs.size fa :: W.fr } ρ H s₁ := by
        refine ⟨fun e he => ?_, hs0.keep, hs0.os, hs0.gens, ⟨hs0.heap.len, fun i o e => let ⟨a, h1, h2⟩ := hs0.heap.obj i o e; ⟨a, h1, OR.fr rfl h2⟩⟩, hs0.nodup, hs0.new⟩
        rcases List.mem_cons.mp he with rfl | he
        · obtain ⟨o', es, ep, ho', hd', _⟩ := x.toInCall.ns
          exact ⟨by show fd.scope.kind ≠ .module; rw [hkind]; decide, s.heap.objs.size, o', es, ep, rfl, (freshAt _ (Nat.le_refl _)).1, (freshAt _ (Nat.le_refl _)).2, ho', hd'⟩
        · exact hs0.frs e he
      have hrel : Rel { W with fr := callEnvC fd s.heap.objs.size fa :: W.fr } (callEnvC fd s.heap.objs.size fa) ρ (updL noSto d.ps args) H s₁ := by
        refine ⟨hs1, ⟨hkind, D.glob, D.blt, ⟨_, x.toInCall.ns, fun i v nm e1 e2 e3 => bl i v nm .local e1 e2 e3 rfl⟩, fun nm hk => ?_, fun nm nm' c e1 e2 => ?_, ?_, ?_⟩⟩
        · rcases hk with hk | hk
          · obtain ⟨c, hc⟩ := lookup_mem_isSome (L := s.heap.objs.size + 1) (show fd.scope.names.lookup nm = some .cell from hk)
            have ab := above nm c hc
            have f := freshAt c (by omega)
            exact ⟨c, _, hc, x.cell nm c hc, f.1, f.2, fun i v e1 e2 => bc i v nm .cell e1 e2 hk rfl⟩
          · exact absurd rfl (nofree _ (mem_of_lookup hk))
        · exact name_of_addr x.apart (mem_of_lookup e1) (mem_of_lookup e2)
        · exact (freshAt _ (Nat.le_refl _)).1
        · exact (freshAt _ (Nat.le_refl _)).2
      have back : ∀ {ρ' : List Addr} {s' : Shared}, Step (mine (callEnvC fd s.heap.objs.size fa)) ρ s₁ ρ' s' → Step no ρ s ρ' s' := fun st => by
        refine ((Step.grow keep).trans st).weaken fun b o e hb => ?_
        have lt := Heap.lt_size e
        rcases hb with rfl | ⟨nm, _, e2⟩
        · exact absurd lt (by rw [envs]; exact Nat.lt_irrefl _)
        · exact absurd (above nm b e2) (Nat.not_lt_of_lt lt)
      have hfr : (A.deeper (callEnvC fd s.heap.objs.size fa)).frames = some (callEnvC fd s.heap.objs.size fa :: W.fr) := Around.frames_deeper hfs
      refine simStms (B (callEnvC fd s.heap.objs.size fa :: W.fr)) ⟨fun nm h => h, fun nm h => h, fun nm h => h⟩ hlc rfl rfl fuel d.body body D.chk (A.deeper (callEnvC fd s.heap.objs.size fa)) ρ (updL noSto d.ps args) H s₁ _ _ ⟨hh, ?_, ?_, hfr⟩ hrel ?_
      · show A.depth + 1 + n.d < 900; omega
      · show A.units + 3 + 8 * n.d + 200 < 9000; omega
      · cases hr : exs C d.body (updL noSto d.ps args) H with
        | stuck => rw [hr] at hP; exact hP
        | exc c σ' H' =>
          rw [hr] at hP
          intro e ρ' s' st r x'
          refine leave_sound (W := { W with fr := callEnvC fd s.heap.objs.size fa :: W.fr }) hfr rfl rfl (back st) r.toRelH (x'.back (Step.grow (own := no) (ρ := ρ) keep)) fun a cls a0 h' he af => ?_
          subst he
          exact hP _ ρ' _ af.st (af.rel.fr fun e he => List.mem_cons_of_mem _ he) af.exc
        | ret v H' => rw [hr] at hP; exact fun v' ρ' s' st r hv' => hP v' ρ' s' (back st) (r.fr fun e he => List.mem_cons_of_mem _ he) hv'
        | next σ' H' => rw [hr] at hP; exact fun ρ' s' st r => hP .none ρ' s' (back st) (r.toRelH.fr fun e he => List.mem_cons_of_mem _ he) VR.none
  · exact hP.elim
end
end Mine

set_option autoImplicit false
set_option linter.unusedVariables false
namespace Mine
open PySem PyProof.Rows PySem.W

theorem zip_lookup : ∀ (ns : List Str) (vs : List Value), ns.Nodup → vs.length = ns.length → ∀ n ∈ ns, ((ns.zip vs).lookup n).isSome = true
  | [], _, _, _, n, h => nomatch h
  | m :: ns, [], _, hl, _, _ => by simp at hl
  | m :: ns, v :: vs, hn, hl, n, h => by
    rw [List.zip_cons_cons, List.lookup_cons]
    by_cases e : n == m
    · simp [e]
    · have hne : n ≠ m := by simpa using e
      have hb : (n == m) = false := by simpa using e
      rw [hb]
      exact zip_lookup ns vs (List.nodup_cons.mp hn).2 (by simpa using hl) n (by rcases List.mem_cons.mp h with h | h; exact absurd h hne; exact h)

theorem zip_filterMap : ∀ (ns : List Str) (vs : List Value) (pre : List (Str × Value)), ns.Nodup → vs.length = ns.length → (∀ x ∈ pre, x.1 ∉ ns) → ns.filterMap (fun n => ((pre ++ ns.zip vs).lookup n).map (n, ·)) = ns.zip vs
  | [], _, _, _, _, _ => by simp
  | m :: ns, [], _, _, hl, _ => by simp at hl
  | m :: ns, v :: vs, pre, hn, hl, hp => by
    have hlk : (pre ++ (m, v) :: ns.zip vs).lookup m = some v := by
      rw [List.lookup_append]
      have : pre.lookup m = none := by
        rw [List.lookup_eq_none_iff]
        intro x hx
        have := hp x hx
        simp only [List.mem_cons, not_or] at this
        simpa [bne_iff_ne] using fun e : m = x.1 => this.1 e.symm
      rw [this]
      simp
    rw [List.zip_cons_cons, List.filterMap_cons, hlk]
    simp only [Option.map_some]
    congr 1
    have ih := zip_filterMap ns vs (pre ++ [(m, v)]) (List.nodup_cons.mp hn).2 (by simpa using hl) (fun x hx => by
      rcases List.mem_append.mp hx with hx | hx
      · have := hp x hx; simp only [List.mem_cons, not_or] at this; exact this.2
      · simp only [List.mem_singleton] at hx; subst hx; exact (List.nodup_cons.mp hn).1)
    simpa using ih

noncomputable def plainParams (p : Arguments) : Bool := p.posonlyargs.isEmpty && p.vararg.isNone && p.kwonlyargs.isEmpty && p.kwarg.isNone && decide ((p.args.map (·.arg)).Nodup)

theorem bind_plain {fd : FuncData} (hp : plainParams fd.params = true) (hd : fd.defaults = .none) (vals : List Value) (hl : vals.length = (fd.params.args.map (·.arg)).length) :
    bindArgs fd ⟨vals, []⟩ = pure ((fd.params.args.map (·.arg)).zip vals) := by
  simp only [plainParams, Bool.and_eq_true, List.isEmpty_iff, Option.isNone_iff_eq_none, decide_eq_true_eq] at hp
  obtain ⟨⟨⟨⟨h1, h2⟩, h3⟩, h4⟩, h5⟩ := hp
  have m1 : (List.filter (fun n => (((fd.params.args.map (·.arg)).zip vals).lookup n).isNone) (fd.params.args.map (·.arg))) = [] := by
    rw [List.filter_eq_nil_iff]
    intro n hn
    have := zip_lookup _ vals h5 hl n hn
    simp only [Option.isNone_iff_eq_none]
    intro e; rw [e] at this; cases this
  have m2 := zip_filterMap _ vals [] h5 hl (by simp)
  simp only [List.nil_append] at m2
  have sq : seqItems? Value.none = pure none := rfl
  unfold bindArgs
  simp only [h1, h2, h3, h4, hd, sq, List.map_nil, List.nil_append, List.forIn_nil, pure_bind, Option.getD_none, List.append_nil]
  simp only [hl, List.length_nil, List.drop_nil, Nat.sub_zero, List.take_length, m1, m2, List.drop_length, List.zip_nil_right, List.forIn_nil, Nat.lt_irrefl, gt_iff_lt, pure_bind]
  simp [m1, m2]

/-- a law's text in small form -/
structure Pack where
  T : Tab
  defs : List Def
  consts : List V

noncomputable def FnB (D : List Def) (K : List V) : Nat → Bool → Nat → List V → H → R V
  | 0 => fun _ _ _ _ => .stuck
  | k + 1 => fun b i args H => match D[i]? with
    | some d => runDef ⟨FnB D K k b, FnB D K k false, fun i => K[i]?, b⟩ d args H
    | none => .stuck
noncomputable def Fn (D : List Def) (K : List V) (k : Nat) : Nat → List V → H → R V := FnB D K k true

noncomputable def cxB (D : List Def) (K : List V) (b : Bool) (k : Nat) : Cx := ⟨FnB D K k b, FnB D K k false, fun i => K[i]?, b⟩
noncomputable def cx (D : List Def) (K : List V) (k : Nat) : Cx := cxB D K true k

noncomputable def defOk (T : Tab) (d : Def) (r : DefRec) : Bool :=
  plainParams r.params && scopeOk r.scope && chkP T r.scope d.ps (r.params.args.map (·.arg)) && chkSs T fuel d.body r.scope r.body

noncomputable def defsOk (T : Tab) (recs : List DefRec) : List (Option Str) → List Def → Bool
  | [], [] => true
  | none :: ns, d :: ds => defsOk T recs ns ds
  | some n :: ns, d :: ds => (match recs.find? (fun r => r.name == n) with | some r => defOk T d r | none => false) && defsOk T recs ns ds
  | _, _ => false

noncomputable def constOk (p : Program) (n : Str) (v : V) : Bool := match valOf p n, v with
  | some (.int i), .int j => decide (i = j)
  | some (.str i), .str j => decide (i = j)
  | _, _ => false
noncomputable def constsOk (p : Program) : List Str → List V → Bool
  | [], _ => true
  | n :: ns, v :: vs => constOk p n v && constsOk p ns vs
  | _, _ => false

noncomputable def biNames : List Str := ["len", "all", "any", "list", "int", "max", "min", "tuple", "sorted", "set", "isinstance", "range", "reversed", "bool", "str", "ValueError"]

noncomputable def freeOk (p : Program) (loose : List Str) : Bool := biNames.all fun x =>
  !startupNames.contains x && !loose.contains x && !((recsOf p).map (·.name)).contains x && !((litsOf p).map (·.1)).contains x && !((clssOf p loose).map (·.name)).contains x

noncomputable def packOk (p : Program) (loose : List Str) (P : Pack) : Bool :=
  decide (P.T.vars.Nodup) && defsOk P.T (recsOf p) P.T.fns P.defs && constsOk p P.T.glbs P.consts && freeOk p loose

theorem defsOk_at {T : Tab} {recs : List DefRec} : ∀ {ns : List (Option Str)} {ds : List Def}, defsOk T recs ns ds = true → ∀ {i : Nat} {n : Str}, ns[i]? = some (some n) → ∃ d r, ds[i]? = some d ∧ r ∈ recs ∧ r.name = n ∧ defOk T d r = true
  | [], [], _, i, n, e => by simp at e
  | [], _ :: _, h, _, _, _ => by simp [defsOk] at h
  | _ :: _, [], h, _, _, _ => by simp [defsOk] at h
  | none :: ns, d :: ds, h, i, n, e => by
    simp only [defsOk] at h
    cases i with
    | zero => simp at e
    | succ j => exact defsOk_at (ns := ns) (ds := ds) h (i := j) (by simpa using e)
  | some m :: ns, d :: ds, h, i, n, e => by
    simp only [defsOk, Bool.and_eq_true] at h
    cases i with
    | zero =>
      simp only [List.getElem?_cons_zero, Option.some.injEq] at e
      subst e
      obtain ⟨h1, _⟩ := h
      split at h1
      · rename_i r hr
        exact ⟨d, r, rfl, List.mem_of_find?_eq_some hr, by simpa using List.find?_some hr, h1⟩
      · cases h1
    | succ j => exact defsOk_at (ns := ns) (ds := ds) h.2 (i := j) (by simpa using e)

theorem constsOk_at {p : Program} : ∀ {ns : List Str} {vs : List V}, constsOk p ns vs = true → ∀ {i : Nat} {n : Str} {v : V}, ns[i]? = some n → vs[i]? = some v → constOk p n v = true
  | [], _, _, i, n, v, e, _ => by simp at e
  | _ :: _, [], h, _, _, _, _, _ => by simp [constsOk] at h
  | m :: ns, d :: ds, h, i, n, v, e, e' => by
    simp only [constsOk, Bool.and_eq_true] at h
    cases i with
    | zero => simp at e e'; subst e; subst e'; exact h.1
    | succ j => exact constsOk_at (ns := ns) (vs := ds) h.2 (i := j) (by simpa using e) (by simpa using e')

section
variable {p : Program} {loose : List Str} {mean : ExcName → Option Value} {mg mb : Str → Option Value} {h : Heap}

theorem free_at (T : Top p loose mean mg mb h) (hf : freeOk p loose = true) {x : Str} (hx : x ∈ biNames) : mg x = none := by
  have := List.all_eq_true.mp hf x hx
  simp only [Bool.and_eq_true, Bool.not_eq_true', List.contains_eq_mem, decide_eq_false_iff_not] at this
  exact T.free x this.1.1.1.1 this.1.1.1.2 this.1.1.2 this.1.2 this.2

theorem boot_other : ∀ x ∈ otherNames, x.1 ∈ biNames ∧ bootBuiltins x.1 = some x.2 ∧ x.1 ≠ "__name__" := by decide +kernel
theorem boot_bi (b : Bi) : bootBuiltins (biName b) = some (biVal b) := by cases b <;> decide +kernel

theorem base_all (T : Top p loose mean mg mb h) {prog : Program} {w : World} {os : OsState} {gens : Array GenState} {cls : Nat → Option Value} {P : Pack} (ok : packOk p loose P = true)
    (hcls : ∀ (k : Nat) nm, clsName P.T k = some nm → ∃ C, mg nm = some (.ref C) ∧ cls k = some (.ref C)) (hexc : ExcOk ⟨prog, w, h, os, gens, P.T, cls, mg, mb, []⟩) :
    ∀ k b fr, Base ⟨prog, w, h, os, gens, P.T, cls, mg, mb, fr⟩ ⟨k, b⟩ (cxB P.defs P.consts b k) := by
  simp only [packOk, Bool.and_eq_true, decide_eq_true_eq] at ok
  obtain ⟨⟨⟨hnd, hdefs⟩, hconst⟩, hfree⟩ := ok
  have bl : ∀ {x : Str} {v : Value}, x ∈ biNames → bootBuiltins x = some v → x ≠ "__name__" → mg x = none ∧ mb x = some v := fun hx hv hn => ⟨free_at T hfree hx, (T.builtins _ hn).trans hv⟩
  have fns : ∀ (i : Nat) nm, P.T.fns[i]? = some (some nm) → ∃ d r a o pm code doc, P.defs[i]? = some d ∧ defOk P.T d r = true ∧ mg nm = some (.ref a) ∧ h.get? a = some o ∧ o.data = .func (Calls.docDef r.name r.params r.body r.scope pm code doc) ∧ h.CodeRec code r.name := fun i nm e => by
    obtain ⟨d, r, h1, h2, h3, h4⟩ := defsOk_at hdefs e
    obtain ⟨a, o, pm, code, doc, g1, g2, g3, g4⟩ := T.fn r h2
    exact ⟨d, r, a, o, pm, code, doc, h1, h4, h3 ▸ g1, g2, g3, g4⟩
  have gl : ∀ (i : Nat) nm v, P.T.glbs[i]? = some nm → P.consts[i]? = some v → ∃ x, mg nm = some x ∧ VR [] v x := fun i nm v e1 e2 => by
    have := constsOk_at hconst e1 e2
    unfold constOk at this
    split at this
    · rename_i j j' hv
      simp only [decide_eq_true_eq] at this; subst this
      obtain ⟨x, hx, hr⟩ := T.const nm _ hv
      have hr' := hr h
      cases hr' with
      | int _ t => exact ⟨_, hx, VR.int _ t⟩
    · rename_i j j' hv
      simp only [decide_eq_true_eq] at this; subst this
      obtain ⟨x, hx, hr⟩ := T.const nm _ hv
      have hr' := hr h
      cases hr' with
      | str _ t => exact ⟨_, hx, VR.str _ t⟩
    · cases this
  have bi : ∀ b, mg (biName b) = none ∧ mb (biName b) = some (biVal b) := fun b => bl (by cases b <;> simp [biName, biNames]) (boot_bi b) (by cases b <;> decide)
  have ot : ∀ x ∈ otherNames, mg x.1 = none ∧ mb x.1 = some x.2 := fun x hx => let ⟨h1, h2, h3⟩ := boot_other x hx; bl h1 h2 h3
  intro k
  induction k with
  | zero =>
    intro b fr
    refine ⟨T.g, T.b, T.nolimit, hnd, rfl, gl, bi, ot, hcls, hexc, fun i nm e => ?_⟩
    obtain ⟨d, r, a, o, pm, code, doc, h1, h2, h3, h4, h5, h6⟩ := fns i nm e
    exact ⟨a, o, _, h3, h4, h5, fun args H A ρ s Q E vals _ _ _ hP => hP.elim, fun args H A ρ s Q E vals _ _ _ hP => hP.elim⟩
  | succ k ih =>
    intro b fr
    refine ⟨T.g, T.b, T.nolimit, hnd, rfl, gl, bi, ot, hcls, hexc, fun i nm e => ?_⟩
    obtain ⟨d, r, a, o, pm, code, doc, h1, h2, h3, h4, h5, h6⟩ := fns i nm e
    simp only [defOk, Bool.and_eq_true] at h2
    obtain ⟨⟨⟨p1, p2⟩, p3⟩, p4⟩ := h2
    have one : ∀ b' args H, CallSim ⟨prog, w, h, os, gens, P.T, cls, mg, mb, fr⟩ ⟨k + 1, b'⟩ a args H (FnB P.defs P.consts (k + 1) b' i args H) := fun b' args H => by
      have e1 : FnB P.defs P.consts (k + 1) b' i args H = runDef (cxB P.defs P.consts b' k) d args H := by rw [FnB]; simp only [h1]; rfl
      rw [e1]
      exact call_sound (W := ⟨prog, w, h, os, gens, P.T, cls, mg, mb, fr⟩) (n := ⟨k, b'⟩) (C := cxB P.defs P.consts b' k) (fun l => ih b' l) h4 h5 h6 ⟨rfl, rfl, rfl, rfl, p2, p3, fun vals hl => bind_plain p1 rfl vals hl, p4⟩ args H
    exact ⟨a, o, _, h3, h4, h5, fun args H => one b args H, fun args H => one false args H⟩
end

section
open PySem.W
variable {p : Program} {loose : List Str} {mean mean' : ExcName → Option Value} {mg mb : Str → Option Value}

/-! the classes, read off a piece of the heap -/
noncomputable def vErr : List Value := [.type "ValueError", .type "Exception", .type "BaseException", .type "object"]
noncomputable def clsAt (K : Frag) (nm : Str) : Option Addr := match nsIn K mainGlobals nm with
  | some (some (.ref C)) => some C
  | _ => none
noncomputable def clsOk1 (K : Frag) (p : Program) (nm : Str) (C : Addr) : Bool :=
  specOf p nm == some ("ValueError.__new__", vErr) && findIn K (.ref C) "__getattribute__" == some (some (.builtin "BaseException.__getattribute__")) && findIn K (.ref C) "__getattr__" == some none &&
  findIn K (.ref C) "__class__" == some (some (.builtin "object.__class__")) && specialIn K (.builtin "object.__class__") "__get__" == some (some (.builtin "getset_descriptor.__get__")) && takesIn K (.builtin "object.__class__") == some true &&
  (clsIn K C).isSome && mroIn K C (.ref C) == some true && mroIn K C (.type "object") == some true && mroIn K C (.type "BaseException") == some true && typeIn K (.ref C) == some (.type "type") && kitOne K (.ref C) (.type "ValueError") == some true
noncomputable def clsVal (K : Frag) (T : Tab) (k : Nat) : Option Value := ((clsName T k).bind (clsAt K)).map .ref
noncomputable def clssOk (K : Frag) (p : Program) (T : Tab) : Bool := (List.range T.clss.length).all fun k => match clsName T k with
  | none => true
  | some nm => match clsAt K nm with
    | none => false
    | some C => clsOk1 K p nm C && (List.range T.clss.length).all fun j => match (clsName T j).bind (clsAt K) with
      | some C' => kitOne K (.ref C) (.ref C') == some (k == j || j == 0)
      | none => true

/-- the heap, as a list of its objects -/
noncomputable def fragOf (h : Heap) : Frag := (List.range h.objs.size).filterMap fun a => (h.get? a).map fun o => (a, o)
theorem lookup_in {β : Type} {a : Addr} {o : β} : ∀ {l : List (Addr × β)}, l.lookup a = some o → (a, o) ∈ l
  | [], e => nomatch e
  | (b, p) :: l, e => by
    rw [List.lookup_cons] at e
    cases q : a == b with
    | true => rw [q] at e; cases e; rw [beq_iff_eq.mp q]; exact .head _
    | false => rw [q] at e; exact .tail _ (lookup_in e)
theorem fragOf_in (h : Heap) : (fragOf h).In h := fun a o e => by
  unfold fragOf at e
  obtain ⟨b, _, hb⟩ := List.mem_filterMap.mp (lookup_in e)
  obtain ⟨o', h1, h2⟩ := Option.map_eq_some_iff.mp hb
  cases h2; exact h1
noncomputable def excHook (p : Program) (T : Tab) : Hook :=
  ⟨Bool, fun s => clssOk (fragOf s.heap) p T, fun _ => true, fun _ h => ∃ K : Frag, K.In h ∧ clssOk K p T = true, fun _ s e => ⟨fragOf s.heap, fragOf_in _, e⟩, fun _ h h' ⟨K, hi, hk⟩ k => ⟨K, fun a o e => k a o (hi a o e), hk⟩⟩

/-- the text without its own names -/
noncomputable def keepS : Stmt → Bool
  | .Assign ts _ _ => match ts with
    | [t] => !decide (asName t = some ("__name__" : Str))
    | _ => true
  | _ => true
noncomputable def viewOf (p : Program) : Program := { p with main := { p.main with body := p.main.body.filter keepS } }

theorem clsName_lt {T : Tab} {k : Nat} {nm : Str} (h : clsName T k = some nm) : k < T.clss.length := by
  unfold clsName at h
  cases q : T.clss[k]? with
  | none => rw [q] at h; cases h
  | some x => exact (List.getElem?_eq_some_iff.mp q).1

theorem exc_ok {h : Heap} {K : Frag} {prog : Program} {w : World} {os : OsState} {gens : Array GenState} {Tb : Tab} (T : Top p loose mean mg mb h) (X : K.In h) (ok : clssOk K p Tb = true) :
    (∀ (k : Nat) nm, clsName Tb k = some nm → ∃ C, mg nm = some (.ref C) ∧ clsVal K Tb k = some (.ref C)) ∧ ExcOk ⟨prog, w, h, os, gens, Tb, clsVal K Tb, mg, mb, []⟩ := by
  have at_ : ∀ {nm C}, clsAt K nm = some C → mg nm = some (.ref C) := fun {nm C} e => by
    unfold clsAt at e
    split at e
    · rename_i C' q
      cases e
      exact mg_of X T.g q
    · cases e
  have one : ∀ k nm, clsName Tb k = some nm → ∃ C, clsAt K nm = some C ∧ clsOk1 K p nm C = true ∧ ∀ j C', (clsName Tb j).bind (clsAt K) = some C' → kitOne K (.ref C) (.ref C') = some (k == j || j == 0) := fun k nm e => by
    have q := List.all_eq_true.mp ok k (List.mem_range.mpr (clsName_lt e))
    rw [e] at q
    dsimp only at q
    split at q
    · cases q
    · rename_i C hC
      obtain ⟨q1, q2⟩ := Bool.and_eq_true_iff.mp q
      refine ⟨C, hC, q1, fun j C' hj => ?_⟩
      obtain ⟨nm', e', _⟩ := Option.bind_eq_some_iff.mp hj
      have z := List.all_eq_true.mp q2 j (List.mem_range.mpr (clsName_lt e'))
      rw [hj] at z
      exact beq_iff_eq.mp z
  refine ⟨fun k nm e => ?_, K, X, fun k v hv => ?_⟩
  · obtain ⟨C, h1, _⟩ := one k nm e
    exact ⟨C, at_ h1, by simp [clsVal, e, h1]⟩
  · have hv' : clsVal K Tb k = some v := hv
    unfold clsVal at hv'
    obtain ⟨C, hC, rfl⟩ := Option.map_eq_some_iff.mp hv'
    obtain ⟨nm, e, hn⟩ := Option.bind_eq_some_iff.mp hC
    obtain ⟨C', h1, h2, h3⟩ := one k nm e
    rw [hn] at h1; cases h1
    simp only [clsOk1, Bool.and_eq_true, beq_iff_eq] at h2
    obtain ⟨⟨⟨⟨⟨⟨⟨⟨⟨⟨⟨a1, a2⟩, a3⟩, a4⟩, a5⟩, a6⟩, a7⟩, a8⟩, a9⟩, a10⟩, a11⟩, a12⟩ := h2
    obtain ⟨C2, O, _⟩ := T.ownAt a1
    have hb := O.bound
    rw [at_ hn] at hb; cases hb
    refine ⟨C, rfl, ⟨⟨nm, O⟩, a2, a3, a4, a5, a6, a7, a8, a9, a10, a11, a12⟩, fun j C' hj => h3 j C' ?_⟩
    have hj' : clsVal K Tb j = some (.ref C') := hj
    unfold clsVal at hj'
    obtain ⟨C3, hC3, q⟩ := Option.map_eq_some_iff.mp hj'
    cases q; exact hC3

theorem intsVR : ∀ {vs : List Value} {xs : List Int}, IntsAre vs xs → VRs [] (xs.map V.int) vs
  | _, _, .nil => .nil
  | _, _, .cons _ _ h => .cons (.int _ _) (intsVR h)

/-- the law's call ends as the row says -/
theorem law_ends {prog : Program} {w : World} {s₁ : Shared} (T : Top p loose mean mg mb s₁.heap) {P : Pack} (ok : packOk p loose P = true) {i : Nat} {nm : Str} {fa a : Addr} {c : ClaimW} {cl : Str → Option Addr} {args : List WData}
    {vs : List Value} {xs : List Int} {k : Nat} {H' : H} {cls : Nat → Option Value} (hx : (∀ (k : Nat) nm, clsName P.T k = some nm → ∃ C, mg nm = some (.ref C) ∧ cls k = some (.ref C)) ∧
    ExcOk ⟨prog, w, s₁.heap, s₁.os, s₁.gens, P.T, cls, mg, mb, []⟩) (hi : P.T.fns[i]? = some (some nm)) (hmg : mg nm = some (.ref fa)) (hk : k ≤ 100) (hl : s₁.heap.IsList a vs.toArray) (hI : IntsAre vs xs) (hg : s₁.gens = #[])
    (hrun : Fn P.defs P.consts k i [.ref 0] [.frozen (xs.map V.int)] = .ok (.bool true) H') (hn : ∀ cls, c.raises args cls = false) (hp : c.post args (.bool true) args = true) :
    wpAny (model prog w) callerA (call (.ref fa) [.ref a]) (fun v s' => GoodWG c cl mean' args s₁ (.ok (.ret v)) s') (fun e s' => GoodWG c cl mean' args s₁ (.error e) s') s₁ := by
  have B := base_all T (prog := prog) (w := w) (os := s₁.os) (gens := s₁.gens) (cls := cls) ok hx.1 hx.2 k true []
  obtain ⟨fa', o, fd, h1, h2, h3, h4, _⟩ := B.fn i nm hi
  have h1' : mg nm = some (.ref fa') := h1
  rw [hmg] at h1'; cases h1'
  have cs := h4 [.ref 0] [.frozen (xs.map V.int)]
  have e1 : (cxB P.defs P.consts true k).F i [.ref 0] [.frozen (xs.map V.int)] = .ok (.bool true) H' := hrun
  rw [e1] at cs
  refine cs callerA [a] s₁ _ _ [.ref a] ⟨fun _ => rfl, ?_, ?_, rfl⟩ ?_ (.cons (.ref 0 a rfl) .nil) ?_
  · show 1 + claimMargin + k < 900
    unfold claimMargin; omega
  · show 4 + 8 * k + 200 < 9000; omega
  · refine ⟨fun e he => (nomatch he), fun b o e => e, rfl, rfl, ⟨rfl, fun j o e => ?_⟩, by simp, fun j b e => ?_⟩
    · cases j with
      | zero =>
        simp only [List.getElem?_cons_zero, Option.some.injEq] at e
        subst e
        exact ⟨a, rfl, _, hl, (intsVR hI).mono (δ := [a])⟩
      | succ j => simp at e
    · cases j with
      | zero => exact .inl ⟨_, rfl⟩
      | succ j => simp at e
  · intro v' ρ' s' st r hv
    cases hv
    exact GoodW.toG ⟨.inl ⟨_, _, [], rfl, hn, .bool true, hp, unshared_nil⟩, r.keep, r.os, r.gens.trans hg⟩
end
end Mine

set_option autoImplicit false
set_option linter.unusedVariables false
set_option linter.unusedSimpArgs false
namespace Mine
open PySem

mutual
/-- a value stands for data, all of its objects in [M, N) -/
noncomputable def Rd (M N : Nat) (h : H) : PyData → V → Prop
  | .none, v => v = .none
  | .bool b, v => v = .bool b
  | .int i, v => v = .int i
  | .str s, v => v = .str s
  | .list ds, v => ∃ a vs, v = .ref a ∧ M ≤ a ∧ a < N ∧ h[a]? = some (O.list vs) ∧ RdL M N h ds vs
  | .tuple ds, v => ∃ a vs, v = .ref a ∧ M ≤ a ∧ a < N ∧ h[a]? = some (O.tuple vs) ∧ RdL M N h ds vs
  | .dict _, _ => False
noncomputable def RdL (M N : Nat) (h : H) : List PyData → List V → Prop
  | [], vs => vs = []
  | d :: ds, vs => ∃ v vs', vs = v :: vs' ∧ Rd M N h d v ∧ RdL M N h ds vs'
end

noncomputable def Same (M N : Nat) (h h' : H) : Prop := ∀ i, M ≤ i → i < N → h'[i]? = h[i]?
theorem Same.refl (M N : Nat) (h : H) : Same M N h h := fun _ _ _ => rfl
theorem Same.trans {M N : Nat} {a b c : H} (x : Same M N a b) (y : Same M N b c) : Same M N a c := fun i h1 h2 => (y i h1 h2).trans (x i h1 h2)
theorem Same.app {M N : Nat} {h Δ : H} (hN : N ≤ h.length) : Same M N h (h ++ Δ) := fun i _ h2 => List.getElem?_append_left (by omega)
theorem Same.set {M N : Nat} {h : H} {a : Nat} {o : O} (ha : a < M ∨ N ≤ a) : Same M N h (h.set a o) := fun i h1 h2 => by rw [List.getElem?_set_ne (by omega)]
theorem Same.mono {M N M' N' : Nat} {h h' : H} (x : Same M N h h') (hM : M ≤ M') (hN : N' ≤ N) : Same M' N' h h' := fun i h1 h2 => x i (by omega) (by omega)

mutual
theorem Rd.same {M N M' N' : Nat} {h h' : H} (hs : Same M N h h') (hM : M' ≤ M) (hN : N ≤ N') : ∀ (d : PyData) (v : V), Rd M N h d v → Rd M' N' h' d v
  | .none, v, x => x
  | .bool b, v, x => x
  | .int i, v, x => x
  | .str s, v, x => x
  | .list ds, v, x => by
    obtain ⟨a, vs, rfl, h1, h2, h3, h4⟩ := x
    exact ⟨a, vs, rfl, by omega, by omega, by rw [hs a h1 h2]; exact h3, RdL.same hs hM hN ds vs h4⟩
  | .tuple ds, v, x => by
    obtain ⟨a, vs, rfl, h1, h2, h3, h4⟩ := x
    exact ⟨a, vs, rfl, by omega, by omega, by rw [hs a h1 h2]; exact h3, RdL.same hs hM hN ds vs h4⟩
  | .dict _, _, x => x.elim
theorem RdL.same {M N M' N' : Nat} {h h' : H} (hs : Same M N h h') (hM : M' ≤ M) (hN : N ≤ N') : ∀ (ds : List PyData) (vs : List V), RdL M N h ds vs → RdL M' N' h' ds vs
  | [], vs, x => x
  | d :: ds, vs, x => by
    obtain ⟨v, vs', rfl, h1, h2⟩ := x
    exact ⟨v, vs', rfl, Rd.same hs hM hN d v h1, RdL.same hs hM hN ds vs' h2⟩
end

mutual
noncomputable def dep : PyData → Nat
  | .list ds => depL ds + 1
  | .tuple ds => depL ds + 1
  | _ => 1
noncomputable def depL : List PyData → Nat
  | [] => 0
  | d :: ds => max (dep d) (depL ds)
end

mutual
theorem Rd.rd {M N : Nat} {h : H} : ∀ (d : PyData) (v : V) (n : Nat), Rd M N h d v → dep d ≤ n → rd n h v = some d
  | d, v, 0, x, hn => by cases d <;> simp [dep] at hn
  | .none, v, n + 1, x, hn => by rw [show v = .none from x]; rfl
  | .bool b, v, n + 1, x, hn => by rw [show v = .bool b from x]; rfl
  | .int i, v, n + 1, x, hn => by rw [show v = .int i from x]; rfl
  | .str s, v, n + 1, x, hn => by rw [show v = .str s from x]; rfl
  | .list ds, v, n + 1, x, hn => by
    obtain ⟨a, vs, rfl, h1, h2, h3, h4⟩ := x
    have := RdL.rd ds vs n h4 (by simp [dep] at hn; omega)
    simp [Mine.rd, h3, this]
  | .tuple ds, v, n + 1, x, hn => by
    obtain ⟨a, vs, rfl, h1, h2, h3, h4⟩ := x
    have := RdL.rd ds vs n h4 (by simp [dep] at hn; omega)
    simp [Mine.rd, h3, this]
  | .dict _, _, _ + 1, x, _ => x.elim
theorem RdL.rd {M N : Nat} {h : H} : ∀ (ds : List PyData) (vs : List V) (n : Nat), RdL M N h ds vs → depL ds ≤ n → mapO (Mine.rd n h) vs = some ds
  | [], vs, n, x, _ => by rw [show vs = [] from x]; rfl
  | d :: ds, vs, n, x, hn => by
    obtain ⟨v, vs', rfl, h1, h2⟩ := x
    simp only [depL] at hn
    rw [mapO, Rd.rd d v n h1 (by omega), RdL.rd ds vs' n h2 (by omega)]
end

theorem eqV_rd {M N M' N' : Nat} {h : H} {d e : PyData} {v w : V} (x : Rd M N h d v) (y : Rd M' N' h e w) (hd : dep d ≤ 6) (he : dep e ≤ 6) (cd : d.canLay0 = true) (ce : e.canLay0 = true) : eqV h v w = some (d.eqv e) := by
  unfold eqV
  rw [Rd.rd d v 6 x hd, Rd.rd e w 6 y he]
  simp [cd, ce]

theorem RdL.length {M N : Nat} {h : H} : ∀ {ds : List PyData} {vs : List V}, RdL M N h ds vs → vs.length = ds.length
  | [], vs, x => by rw [show vs = [] from x]; rfl
  | d :: ds, vs, x => by
    obtain ⟨v, vs', rfl, h1, h2⟩ := x
    simp [RdL.length h2]

theorem RdL.at {M N : Nat} {h : H} : ∀ {ds : List PyData} {vs : List V}, RdL M N h ds vs → ∀ {i : Nat} {d : PyData}, ds[i]? = some d → ∃ v, vs[i]? = some v ∧ Rd M N h d v
  | [], vs, x, i, d, e => by simp at e
  | d :: ds, vs, x, i, d', e => by
    obtain ⟨v, vs', rfl, h1, h2⟩ := x
    cases i with
    | zero => simp at e; subst e; exact ⟨v, by simp, h1⟩
    | succ j => simpa using RdL.at h2 (i := j) (by simpa using e)

theorem RdL.append {M N : Nat} {h : H} : ∀ {ds es : List PyData} {vs ws : List V}, RdL M N h ds vs → RdL M N h es ws → RdL M N h (ds ++ es) (vs ++ ws)
  | [], es, vs, ws, x, y => by rw [show vs = [] from x]; exact y
  | d :: ds, es, vs, ws, x, y => by
    obtain ⟨v, vs', rfl, h1, h2⟩ := x
    exact ⟨v, vs' ++ ws, rfl, h1, RdL.append h2 y⟩

theorem RdL.mem {M N : Nat} {h : H} : ∀ {ds : List PyData} {vs : List V}, RdL M N h ds vs → ∀ {v : V}, v ∈ vs → ∃ d ∈ ds, Rd M N h d v
  | [], vs, x, v, e => by rw [show vs = [] from x] at e; simp at e
  | d :: ds, vs, x, v, e => by
    obtain ⟨w, vs', rfl, h1, h2⟩ := x
    rcases List.mem_cons.mp e with rfl | e
    · exact ⟨d, by simp, h1⟩
    · obtain ⟨d', h3, h4⟩ := RdL.mem h2 e
      exact ⟨d', by simp [h3], h4⟩

theorem RdL.ints_ {M N : Nat} {h : H} : ∀ {xs : List Int} {vs : List V}, RdL M N h (xs.map .int) vs ↔ vs = xs.map .int
  | [], vs => Iff.rfl
  | x :: xs, vs => by
    constructor
    · rintro ⟨v, vs', rfl, h1, h2⟩
      rw [show v = V.int x from h1, RdL.ints_.mp h2]; rfl
    · rintro rfl
      exact ⟨_, _, rfl, rfl, RdL.ints_.mpr rfl⟩

/-! numbers, lists of them, lists of such lists -/
abbrev iL (xs : List Int) : PyData := .list (xs.map .int)
abbrev iLL (xss : List (List Int)) : PyData := .list (xss.map iL)

theorem depL_le {n : Nat} : ∀ {ds : List PyData}, (∀ d ∈ ds, dep d ≤ n) → depL ds ≤ n
  | [], _ => Nat.zero_le _
  | d :: ds, h => by
    rw [depL]
    exact Nat.max_le.mpr ⟨h d (by simp), depL_le fun e he => h e (by simp [he])⟩
theorem dep_iL (xs : List Int) : dep (iL xs) ≤ 2 := by
  rw [dep]
  exact Nat.succ_le_succ (depL_le fun d hd => by obtain ⟨x, _, rfl⟩ := List.mem_map.mp hd; exact Nat.le_refl _)
theorem dep_iLL (xs : List (List Int)) : dep (iLL xs) ≤ 3 := by
  rw [dep]
  exact Nat.succ_le_succ (depL_le fun d hd => by obtain ⟨x, _, rfl⟩ := List.mem_map.mp hd; exact dep_iL x)
theorem lay_all : ∀ {ds : List PyData}, (∀ d ∈ ds, d.canLay0 = true) → PyData.canLayAll0 ds = true
  | [], _ => by simp [PyData.canLayAll0]
  | d :: ds, h => by
    rw [PyData.canLayAll0, h d (by simp), lay_all fun e he => h e (by simp [he])]; rfl
theorem lay_iL (xs : List Int) : (iL xs).canLay0 = true := by
  rw [PyData.canLay0]
  exact lay_all fun d hd => by obtain ⟨x, _, rfl⟩ := List.mem_map.mp hd; simp [PyData.canLay0]
theorem lay_iLL (xs : List (List Int)) : (iLL xs).canLay0 = true := by
  rw [PyData.canLay0]
  exact lay_all fun d hd => by obtain ⟨x, _, rfl⟩ := List.mem_map.mp hd; exact lay_iL x

/-! statements, one after the other -/
section
variable {C : Cx} {σ σ' : Sto} {h h' : H} {v : V}
theorem exs_next {s : S} {ss : List S} (e : ex C s σ h = .next σ' h') : exs C (s :: ss) σ h = exs C ss σ' h' := by rw [exs, e]
theorem exs_ret {s : S} {ss : List S} (e : ex C s σ h = .ret v h') : exs C (s :: ss) σ h = .ret v h' := by rw [exs, e]
theorem ex_assign {i : Nat} {x : X} (e : ev C x σ h = .ok v h') : ex C (.assign i x) σ h = .next (upd σ i v) h' := by rw [ex, e]
theorem ex_expr {x : X} (e : ev C x σ h = .ok v h') : ex C (.expr x) σ h = .next σ h' := by rw [ex, e]
theorem ex_retv {x : X} (e : ev C x σ h = .ok v h') : ex C (.ret x) σ h = .ret v h' := by rw [ex, e]
theorem ex_iteF {x : X} {a b : List S} (e : ev C x σ h = .ok (.bool false) h') : ex C (.ite x a b) σ h = exs C b σ h' := by rw [ex, e]; rfl
theorem ex_iteT {x : X} {a b : List S} (e : ev C x σ h = .ok (.bool true) h') : ex C (.ite x a b) σ h = exs C a σ h' := by rw [ex, e]; rfl
theorem exs_nil : exs C [] σ h = .next σ h := by rw [exs]
theorem ex_unpack {is : List Nat} {x : X} {vs : List V} (e : ev C x σ h = .ok v h') (ht : tupAt h' v = some vs) (hl : vs.length = is.length) (hc : C.calm = true := by rfl) : ex C (.unpack is x) σ h = .next (updL σ is vs) h' := by
  rw [ex, e]; simp only [ht, hl, hc, and_self, if_true]

theorem pre_get {h h' : H} {a : Nat} {o : O} (hp : h <+: h') (e : h[a]? = some o) : h'[a]? = some o := by
  obtain ⟨Δ, rfl⟩ := hp
  rw [List.getElem?_append_left (List.getElem?_eq_some_iff.mp e).1]; exact e
theorem pre_len {h h' : H} (hp : h <+: h') : h.length ≤ h'.length := hp.length_le
theorem Same.pre {M N : Nat} {h h' : H} (hp : h <+: h') (hN : N ≤ h.length) : Same M N h h' := by
  obtain ⟨Δ, rfl⟩ := hp
  exact Same.app hN
theorem Rd.pre {M N M' N' : Nat} {h h' : H} {d : PyData} {v : V} (x : Rd M N h d v) (hp : h <+: h') (hN : N ≤ h.length) (h1 : M' ≤ M) (h2 : N ≤ N') : Rd M' N' h' d v := Rd.same (Same.pre hp hN) h1 h2 _ _ x
theorem RdL.pre {M N M' N' : Nat} {h h' : H} {d : List PyData} {v : List V} (x : RdL M N h d v) (hp : h <+: h') (hN : N ≤ h.length) (h1 : M' ≤ M) (h2 : N ≤ N') : RdL M' N' h' d v := RdL.same (Same.pre hp hN) h1 h2 _ _ x
theorem Rd.wide {M N M' N' : Nat} {h : H} {d : PyData} {v : V} (x : Rd M N h d v) (h1 : M' ≤ M) (h2 : N ≤ N') : Rd M' N' h d v := Rd.same (Same.refl _ _ _) h1 h2 _ _ x

theorem Src.stands_pre {src : Src} (hp : h <+: h') (x : src.stands h) : src.stands h' := by
  unfold Src.stands at *
  split
  · rename_i a o e
    rw [e] at x
    exact pre_get hp x
  · trivial

/-- a comprehension whose turns only add objects -/
theorem compR_ext {α : Type} {src : Src} {tests : V → H → R Bool} {elt : V → H → R V} (M : Nat) (p : α → Bool) (g : α → PyData) : ∀ (items : List (V × α)) (h : H), src.stands h → M ≤ h.length →
    (∀ q ∈ items, ∀ h1, h <+: h1 → ∃ h2, tests q.1 h1 = .ok (p q.2) h2 ∧ h1 <+: h2) →
    (∀ q ∈ items, p q.2 = true → ∀ h1, h <+: h1 → ∃ x h2, elt q.1 h1 = .ok x h2 ∧ h1 <+: h2 ∧ Rd M h2.length h2 (g q.2) x) →
    ∃ xs h', compR src tests elt (items.map (·.1)) h = .ok xs h' ∧ h <+: h' ∧ RdL M h'.length h' (((items.map (·.2)).filter p).map g) xs
  | [], h, hs, hM, _, _ => ⟨[], h, by rw [List.map_nil, compR, if_pos hs], List.prefix_refl _, rfl⟩
  | (v, a) :: vs, h, hs, hM, ht, he => by
    obtain ⟨h1, e1, p1⟩ := ht (v, a) (by simp) h (List.prefix_refl _)
    simp only [List.map_cons]
    cases hp : p a with
    | false =>
      rw [hp] at e1
      obtain ⟨xs, h', e2, p2, r2⟩ := compR_ext M p g vs h1 (Src.stands_pre p1 hs) (Nat.le_trans hM (pre_len p1)) (fun w hw h2 q => ht w (by simp [hw]) h2 (p1.trans q)) (fun w hw hpw h2 q => he w (by simp [hw]) hpw h2 (p1.trans q))
      refine ⟨xs, h', by rw [compR, if_pos hs, e1]; simp only [e2], p1.trans p2, ?_⟩
      rw [List.filter_cons_of_neg (by simp [hp])]
      exact r2
    | true =>
      rw [hp] at e1
      obtain ⟨x, h2, e2, p2, r2⟩ := he (v, a) (by simp) hp h1 p1
      obtain ⟨xs, h', e3, p3, r3⟩ := compR_ext M p g vs h2 (Src.stands_pre (p1.trans p2) hs) (Nat.le_trans hM (pre_len (p1.trans p2))) (fun w hw h3 q => ht w (by simp [hw]) h3 ((p1.trans p2).trans q)) (fun w hw hpw h3 q => he w (by simp [hw]) hpw h3 ((p1.trans p2).trans q))
      refine ⟨x :: xs, h', by rw [compR, if_pos hs, e1]; simp only [e2, e3], (p1.trans p2).trans p3, ?_⟩
      rw [List.filter_cons_of_pos hp, List.map_cons]
      exact ⟨x, xs, rfl, r2.pre p3 (Nat.le_refl _) (Nat.le_refl _) (pre_len p3), r3⟩

theorem testsR_nil {v : V} : testsR (evT C [] σ) h = .ok true h := by rw [evT]; rfl

theorem ev_comp {elt : X} {i : Nat} {it : It} {ifs : List X} {src : Src} {xs : List V} {h1 : H} (es : evS C it σ h = .ok src h1) (hb : src.items.length ≤ big)
    (ec : compR src (fun x h2 => testsR (evT C ifs (upd σ i x)) h2) (fun x h2 => ev C elt (upd σ i x) h2) src.items h1 = .ok xs h') (hc : C.calm = true := by rfl) :
    ev C (.comp elt i it ifs) σ h = .ok (.ref h'.length) (h' ++ [.list xs]) := by
  rw [ev, es]
  simp only [R.bind, hb, hc, and_self, if_true, ec, Mine.alloc]

/-- a comprehension over items that stand for things of a kind -/
theorem comp_over {α : Type} {elt : X} {i : Nat} {it : It} {ifs : List X} {src : Src} {h1 : H} (M : Nat) (ps : List (V × α)) (p : α → Bool) (g : α → PyData) (es : evS C it σ h = .ok src h1) (hi : src.items = ps.map (·.1)) (hb : ps.length ≤ big) (hs : src.stands h1) (hM : M ≤ h1.length)
    (ht : ∀ q ∈ ps, ∀ h2, h1 <+: h2 → ∃ h3, testsR (evT C ifs (upd σ i q.1)) h2 = .ok (p q.2) h3 ∧ h2 <+: h3)
    (he : ∀ q ∈ ps, p q.2 = true → ∀ h2, h1 <+: h2 → ∃ x h3, ev C elt (upd σ i q.1) h2 = .ok x h3 ∧ h2 <+: h3 ∧ Rd M h3.length h3 (g q.2) x) (hc : C.calm = true := by rfl) :
    ∃ v h', ev C (.comp elt i it ifs) σ h = .ok v h' ∧ h1 <+: h' ∧ Rd M h'.length h' (.list (((ps.map (·.2)).filter p).map g)) v := by
  obtain ⟨xs, h', e, p1, r⟩ := compR_ext (src := src) (tests := fun x h2 => testsR (evT C ifs (upd σ i x)) h2) (elt := fun x h2 => ev C elt (upd σ i x) h2) M p g ps h1 hs hM ht he
  have p2 : h' <+: h' ++ [O.list xs] := List.prefix_append _ _
  refine ⟨_, _, ev_comp es (by rw [hi]; simpa using hb) (by rw [hi]; exact e) hc, p1.trans p2, ?_⟩
  have := pre_len p1
  exact ⟨_, xs, rfl, by omega, by simp, by simp, r.pre p2 (Nat.le_refl _) (Nat.le_refl _) (pre_len p2)⟩

theorem comp_all {α : Type} {elt : X} {i : Nat} {it : It} {src : Src} {h1 : H} (M : Nat) (ps : List (V × α)) (g : α → PyData) (es : evS C it σ h = .ok src h1) (hi : src.items = ps.map (·.1)) (hb : ps.length ≤ big) (hs : src.stands h1) (hM : M ≤ h1.length)
    (he : ∀ q ∈ ps, ∀ h2, h1 <+: h2 → ∃ x h3, ev C elt (upd σ i q.1) h2 = .ok x h3 ∧ h2 <+: h3 ∧ Rd M h3.length h3 (g q.2) x) (hc : C.calm = true := by rfl) :
    ∃ v h', ev C (.comp elt i it []) σ h = .ok v h' ∧ h1 <+: h' ∧ Rd M h'.length h' (.list ((ps.map (·.2)).map g)) v := by
  have := comp_over M ps (fun _ => true) g es hi hb hs hM (ifs := []) (fun q _ h2 _ => ⟨h2, by rw [testsR_nil (v := .none)], List.prefix_refl _⟩) (fun q hq _ h2 hp => he q hq h2 hp) hc
  rwa [List.filter_eq_self.mpr (fun _ _ => rfl)] at this

noncomputable def intPairs (xs : List Int) : List (V × Int) := xs.map fun x => (.int x, x)
theorem intPairs_1 (xs : List Int) : (intPairs xs).map (·.1) = xs.map V.int := by simp [intPairs]
theorem intPairs_2 (xs : List Int) : (intPairs xs).map (·.2) = xs := by
  unfold intPairs; rw [List.map_map]; exact List.map_id'' (fun _ => rfl) xs
theorem intPairs_mem {xs : List Int} {q : V × Int} (h : q ∈ intPairs xs) : q.2 ∈ xs ∧ q.1 = .int q.2 := by
  obtain ⟨x, hx, rfl⟩ := List.mem_map.mp h
  exact ⟨hx, rfl⟩

theorem zip_pairs {α : Type} {M N : Nat} {g : α → PyData} : ∀ {xs : List α} {vs : List V}, RdL M N h (xs.map g) vs → (vs.zip xs).map (·.1) = vs ∧ (vs.zip xs).map (·.2) = xs ∧ ∀ q ∈ vs.zip xs, q.2 ∈ xs ∧ Rd M N h (g q.2) q.1
  | [], vs, x => by rw [show vs = [] from x]; simp
  | x :: xs, vs, r => by
    obtain ⟨v, vs', rfl, h1, h2⟩ := r
    obtain ⟨e1, e2, e3⟩ := zip_pairs h2
    refine ⟨by simp [e1], by simp [e2], fun q hq => ?_⟩
    rw [List.zip_cons_cons] at hq
    rcases List.mem_cons.mp hq with rfl | hq
    · exact ⟨by simp, h1⟩
    · exact ⟨by simp [(e3 q hq).1], (e3 q hq).2⟩

/-- a for whose turns go on -/
theorem forR_inv {α : Type} {src : Src} {body : V → Sto → H → RS} (Inv : List α → Sto → H → Prop) (hst : ∀ vs σ h, Inv vs σ h → src.stands h) : ∀ (ps : List (V × α)) (σ : Sto) (h : H),
    (∀ q ∈ ps, ∀ as σ h, Inv (q.2 :: as) σ h → ∃ σ' h', body q.1 σ h = .next σ' h' ∧ Inv as σ' h') → Inv (ps.map (·.2)) σ h → ∃ σ' h', forR src body (ps.map (·.1)) σ h = .next σ' h' ∧ Inv [] σ' h'
  | [], σ, h, _, x => ⟨σ, h, by rw [List.map_nil, forR, if_pos (hst _ _ _ x)], x⟩
  | (v, a) :: vs, σ, h, hb, x => by
    obtain ⟨σ1, h1, e1, x1⟩ := hb (v, a) (by simp) _ σ h x
    obtain ⟨σ2, h2, e2, x2⟩ := forR_inv Inv hst vs σ1 h1 (fun q hq => hb q (by simp [hq])) x1
    exact ⟨σ2, h2, by rw [List.map_cons, forR, if_pos (hst _ _ _ x), e1]; exact e2, x2⟩

theorem ex_for {i : Nat} {it : It} {body : List S} {src : Src} {h1 : H} (es : evS C it σ h = .ok src h1) (ef : forR src (fun x σ1 h2 => exs C body (upd σ1 i x) h2) src.items σ h1 = .next σ' h') (hc : C.calm = true := by rfl) : ex C (.for i it body) σ h = .next σ' h' := by
  rw [ex, es]; simp only [hc, if_true]; exact ef
end

theorem countV_map : ∀ (a : Int) (n : Nat), countV a n = (List.range n).map fun j : Nat => V.int (a + (j : Int))
  | a, 0 => rfl
  | a, n + 1 => by
    rw [countV, countV_map (a + 1) n, List.range_succ_eq_map]
    simp only [List.map_cons, List.map_map]
    congr 1
    · simp
    · apply List.map_congr_left; intro j _; simp only [Function.comp, Nat.succ_eq_add_one]; congr 1; omega

theorem eqV_int (h : H) (a b : Int) : eqV h (.int a) (.int b) = some (decide (a = b)) := by
  simp [eqV, rd, PyData.canLay0, PyData.eqv]
  by_cases e : a = b <;> simp [e]

theorem allB_rd {M N : Nat} {h : H} : ∀ {bs : List Bool} {vs : List V}, RdL M N h (bs.map .bool) vs → allB vs = some (bs.all id)
  | [], vs, x => by rw [show vs = [] from x]; rfl
  | b :: bs, vs, x => by
    obtain ⟨v, vs', rfl, h1, h2⟩ := x
    rw [show v = V.bool b from h1, allB, allB_rd h2]; simp

theorem fn_at {D : List Def} {K : List V} {n i : Nat} {d : Def} (e : D[i]? = some d) (a : List V) (h : H) : Fn D K (n + 1) i a h = runDef (cx D K n) d a h := by
  show FnB D K (n + 1) true i a h = _
  rw [FnB]; simp only [e]; rfl
theorem cx_calm (D : List Def) (K : List V) (k : Nat) : (cx D K k).calm = true := rfl
end Mine

set_option autoImplicit false
set_option linter.unusedVariables false
set_option linter.unusedSimpArgs false
set_option maxRecDepth 100000
namespace Mine
open PySem

noncomputable def vars : List Str := [(Str.ofString "thing"), (Str.ofString "least"), (Str.ofString "most"), (Str.ofString "below"), (Str.ofString "one"), (Str.ofString "k"), (Str.ofString "threading"), (Str.ofString "ties"), (Str.ofString "treadling"), (Str.ofString "tie"), (Str.ofString "loom"), (Str.ofString "shaft"), (Str.ofString "treadle"), (Str.ofString "_law_script"), (Str.ofString "_law_k"), (Str.ofString "_law_seed"), (Str.ofString "_law_mixed"), (Str.ofString "_law_cell"), (Str.ofString "_law_at"), (Str.ofString "_law_more"), (Str.ofString "_law_warps"), (Str.ofString "_law_wefts"), (Str.ofString "_law_treadles"), (Str.ofString "_law_shafts"), (Str.ofString "_law_threading"), (Str.ofString "_law_j"), (Str.ofString "_law_ties"), (Str.ofString "_law_shaft"), (Str.ofString "_law_found"), (Str.ofString "_law_loom"), (Str.ofString "_law_tie"), (Str.ofString "_law_kept"), (Str.ofString "_law_part"), (Str.ofString "_law_due"), (Str.ofString "_law_treadle"), (Str.ofString "_law_row"), (Str.ofString "_law_told"), (Str.ofString "_law_sign"), (Str.ofString "row"), (Str.ofString "cloth"), (Str.ofString "thread"), (Str.ofString "other"), (Str.ofString "some"), (Str.ofString "firsts"), (Str.ofString "found"), (Str.ofString "rows"), (Str.ofString "columns"), (Str.ofString "shafts"), (Str.ofString "treadles"), (Str.ofString "_law_few"), (Str.ofString "_law_floors"), (Str.ofString "_law_down"), (Str.ofString "_law_right"), (Str.ofString "_law_made"), (Str.ofString "_law_one"), (Str.ofString "_law_other"), (Str.ofString "_law_stair"), (Str.ofString "_law_cloth"), (Str.ofString "_law_turn"), (Str.ofString "_law_alike"), (Str.ofString "_law_pick"), (Str.ofString "_law_thread"), (Str.ofString "_law_some"), (Str.ofString "_law_unlike"), (Str.ofString "_law_treadling"), (Str.ofString "_law_firsts_here"), (Str.ofString "_law_copy"), (Str.ofString "_law_rows"), (Str.ofString "_law_two"), (Str.ofString "wefts"), (Str.ofString "warps"), (Str.ofString "weft"), (Str.ofString "warp"), (Str.ofString "_law_error"), (Str.ofString "_law_many"), (Str.ofString "_law_some_here"), (Str.ofString "_law_odd"), (Str.ofString "_law_handed"), (Str.ofString "down"), (Str.ofString "right"), (Str.ofString "_law_pair"), (Str.ofString "_law_due_here"), (Str.ofString "_law_told_here"), (Str.ofString "_law_lies"), (Str.ofString "_law_place"), (Str.ofString "size"), (Str.ofString "high"), (Str.ofString "wide"), (Str.ofString "two"), (Str.ofString "_law_most"), (Str.ofString "_law_count_here"), (Str.ofString "_law_least_here"), (Str.ofString "_law_longer"), (Str.ofString "_law_cut"), (Str.ofString "_law_thing"), (Str.ofString "_law_whole"), (Str.ofString "_law_which"), (Str.ofString "goal"), (Str.ofString "steps"), (Str.ofString "ring"), (Str.ofString "_law_goal"), (Str.ofString "_law_far_here"), (Str.ofString "_law_grown"), (Str.ofString "_law_pairs"), (Str.ofString "text"), (Str.ofString "_law_sign_here"), (Str.ofString "_law_text"), (Str.ofString "_law_line")]
noncomputable def d_is_among : Def :=  -- 0
  ⟨[0, 1, 2], [
    .ret (.bop .And [(.isi (.var 0) .int), (.not (.isi (.var 0) .bool)), (.cmp (.var 1) [.LtE, .LtE] [(.var 0), (.var 2)])])]⟩
noncomputable def d_cell_at_l : Def :=  -- 6
  ⟨[13, 14], [
    .ite (.cmp (.var 14) [.Lt] [(.bi .len [(.var 13)])]) [.ret (.sub (.var 13) (.var 14))] [],
    .ret (.int 0)]⟩
noncomputable def d_drawn_l : Def :=  -- 7
  ⟨[15, 14], [
    .assign 16 (.bin .Mod (.bin .Mult (.bin .Add (.bin .Add (.var 15) (.bin .Mult (.int 101) (.var 14))) (.int 7)) (.int 48271)) (.int 2147483647)),
    .ret (.bin .FloorDiv (.bin .Mod (.bin .Mult (.bin .Add (.bin .FloorDiv (.var 16) (.int 7)) (.var 14)) (.int 16807)) (.int 2147483647)) (.int 64))]⟩
noncomputable def d_size_l : Def :=  -- 8
  ⟨[17], [
    .ite (.cmp (.bin .Mod (.bin .FloorDiv (.var 17) (.int 5)) (.int 9)) [.Eq] [(.int 1)]) [.ret (.bin .Add (.int 6) (.bin .Mod (.bin .FloorDiv (.var 17) (.int 45)) (.int 7)))] [],
    .ret (.bin .Add (.int 1) (.bin .Mod (.var 17) (.int 5)))]⟩
noncomputable def d_is_int_l : Def :=  -- 10
  ⟨[28], [
    .ret (.bop .And [(.isi (.var 28) .int), (.not (.isi (.var 28) .bool))])]⟩
noncomputable def d_is_row : Def :=  -- 13
  ⟨[0], [
    .ret (.bop .And [(.isi (.var 0) .list), (.cmp (.int 1) [.LtE, .LtE] [(.bi .len [(.var 0)]), (.glob 0)]), (.bi .all [(.comp (.call 0 [(.var 4), (.int 0), (.int 1)]) 4 (.val (.var 0)) [])])])]⟩
noncomputable def d_is_cloth : Def :=  -- 14
  ⟨[0], [
    .ite (.bop .Or [(.not (.isi (.var 0) .list)), (.not (.cmp (.int 1) [.LtE, .LtE] [(.bi .len [(.var 0)]), (.glob 0)]))]) [.ret (.bool false)] [],
    .ret (.bop .And [(.bi .all [(.comp (.call 13 [(.var 38)]) 38 (.val (.var 0)) [])]), (.bi .all [(.comp (.cmp (.bi .len [(.var 38)]) [.Eq] [(.bi .len [(.sub (.var 0) (.int 0))])]) 38 (.val (.var 0)) [])])])]⟩
noncomputable def d_need_cloth : Def :=  -- 15
  ⟨[0], [
    .ite (.not (.call 14 [(.var 0)])) [.raise 2] [],
    .ret (.comp (.bi .list [(.var 38)]) 38 (.val (.var 0)) [])]⟩
noncomputable def d_many_of : Def :=  -- 16
  ⟨[39], [
    .ret (.bin .Add (.bi .len [(.var 39)]) (.bi .len [(.sub (.var 39) (.int 0))]))]⟩
noncomputable def d_need_thread : Def :=  -- 17
  ⟨[39, 0], [
    .ite (.not (.call 0 [(.var 0), (.int 0), (.bin .Sub (.call 16 [(.var 39)]) (.int 1))])) [.raise 3] []]⟩
noncomputable def d_is_weft : Def :=  -- 18
  ⟨[39, 40], [
    .ret (.cmp (.var 40) [.Lt] [(.bi .len [(.var 39)])])]⟩
noncomputable def d_lies_over : Def :=  -- 19
  ⟨[39, 4, 41], [
    .ite (.call 18 [(.var 39), (.var 4)]) [.ret (.cmp (.sub (.sub (.var 39) (.var 4)) (.bin .Sub (.var 41) (.bi .len [(.var 39)]))) [.Eq] [(.int 0)])] [],
    .ret (.cmp (.sub (.sub (.var 39) (.var 41)) (.bin .Sub (.var 4) (.bi .len [(.var 39)]))) [.Eq] [(.int 1)])]⟩
noncomputable def d_crossing : Def :=  -- 20
  ⟨[39, 40], [
    .ite (.call 18 [(.var 39), (.var 40)]) [.ret (.lrange [(.bi .len [(.var 39)]), (.call 16 [(.var 39)])])] [],
    .ret (.lrange [(.bi .len [(.var 39)])])]⟩
noncomputable def d_places_of : Def :=  -- 21
  ⟨[42], [
    .assign 43 (.list []),
    .assign 44 (.list []),
    .for 4 (.val (.var 42)) [.ite (.cmp (.var 4) [.NotIn] [(.var 43)]) [.expr (.meth .append (.var 43) [(.var 4)])] [], .expr (.meth .append (.var 44) [(.meth .index (.var 43) [(.var 4)])])],
    .ret (.tup [(.var 44), (.var 43)])]⟩
noncomputable def d_loom_of : Def :=  -- 22
  ⟨[39], [
    .assign 45 (.call 15 [(.var 39)]),
    .assign 46 (.comp (.comp (.sub (.var 38) (.var 5)) 38 (.val (.var 45)) []) 5 (.range [(.bi .len [(.sub (.var 45) (.int 0))])]) []),
    .unpack [6, 47] (.call 21 [(.var 46)]),
    .unpack [8, 48] (.call 21 [(.var 45)]),
    .assign 43 (.comp (.meth .index (.var 6) [(.var 11)]) 11 (.range [(.bi .len [(.var 47)])]) []),
    .assign 7 (.comp (.comp (.var 11) 11 (.range [(.bi .len [(.var 47)])]) [(.cmp (.sub (.var 38) (.sub (.var 43) (.var 11))) [.Eq] [(.int 1)])]) 38 (.val (.var 48)) []),
    .ret (.tup [(.var 6), (.var 7), (.var 8)])]⟩
noncomputable def d_apart : Def :=  -- 23
  ⟨[39, 4, 41], [
    .expr (.call 15 [(.var 39)]),
    .expr (.call 17 [(.var 39), (.var 4)]),
    .expr (.call 17 [(.var 39), (.var 41)]),
    .ite (.cmp (.call 18 [(.var 39), (.var 4)]) [.NotEq] [(.call 18 [(.var 39), (.var 41)])]) [.raise 3] [],
    .for 40 (.val (.call 20 [(.var 39), (.var 4)])) [.ite (.cmp (.call 19 [(.var 39), (.var 40), (.var 4)]) [.NotEq] [(.call 19 [(.var 39), (.var 40), (.var 41)])]) [.ret (.var 40)] []],
    .ret .none]⟩
noncomputable def d_kind_at_l : Def :=  -- 24
  ⟨[15, 14, 49], [
    .ite (.cmp (.var 49) [.Gt] [(.int 11)]) [.ret (.var 14)] [],
    .ret (.bin .Mod (.call 7 [(.var 15), (.bin .Add (.int 300) (.var 14))]) (.var 49))]⟩
noncomputable def d_cloth_by_l : Def :=  -- 25
  ⟨[13, 18], [
    .assign 21 (.call 8 [(.call 6 [(.var 13), (.var 18)])]),
    .assign 20 (.call 8 [(.bin .FloorDiv (.call 6 [(.var 13), (.var 18)]) (.int 320))]),
    .assign 15 (.call 6 [(.var 13), (.bin .Add (.var 18) (.int 1))]),
    .assign 19 (.call 6 [(.var 13), (.bin .Add (.var 18) (.int 2))]),
    .ite (.bop .Or [(.cmp (.bin .Mod (.bin .FloorDiv (.var 19) (.int 80)) (.int 8)) [.Eq] [(.int 2)]), (.cmp (.bin .Mod (.bin .FloorDiv (.var 19) (.int 80)) (.int 8)) [.Eq] [(.int 3)])]) [.assign 21 (.bin .Add (.int 4) (.bin .Mod (.call 7 [(.var 15), (.int 700)]) (.int 6))), .assign 20 (.var 21)] [],
    .assign 50 (.sub (.list [(.int 1), (.int 2), (.int 3), (.int 5)]) (.bin .Mod (.var 19) (.int 4))),
    .assign 51 (.comp (.call 24 [(.var 15), (.var 14), (.sub (.list [(.int 12), (.int 1), (.int 2), (.int 3), (.int 12)]) (.bin .Mod (.bin .FloorDiv (.var 19) (.int 4)) (.int 5)))]) 14 (.range [(.var 21)]) []),
    .assign 52 (.comp (.call 24 [(.bin .Add (.var 15) (.int 1)), (.var 25), (.sub (.list [(.int 12), (.int 2), (.int 3), (.int 12)]) (.bin .Mod (.bin .FloorDiv (.var 19) (.int 20)) (.int 4)))]) 25 (.range [(.var 20)]) []),
    .assign 53 (.list []),
    .for 14 (.range [(.var 21)]) [.assign 35 (.list []), .for 25 (.range [(.var 20)]) [.assign 54 (.bin .Mod (.call 7 [(.bin .FloorDiv (.var 19) (.int 640)), (.sub (.var 51) (.var 14))]) (.var 50)), .assign 55 (.bin .Mod (.call 7 [(.bin .FloorDiv (.var 19) (.int 640)), (.bin .Add (.int 50) (.sub (.var 52) (.var 25)))]) (.var 50)), .assign 37 (.bi .int [(.cmp (.var 55) [.Lt] [(.var 54)])]), .ite (.cmp (.var 54) [.Eq] [(.var 55)]) [.assign 37 (.bin .Mod (.call 7 [(.var 15), (.bin .Add (.bin .Mult (.int 20) (.sub (.var 51) (.var 14))) (.sub (.var 52) (.var 25)))]) (.int 2))] [], .ite (.bop .And [(.cmp (.bin .Mod (.bin .FloorDiv (.var 19) (.int 80)) (.int 8)) [.Gt] [(.int 0)]), (.cmp (.bin .Mod (.bin .FloorDiv (.var 19) (.int 80)) (.int 8)) [.Lt] [(.int 4)])]) [.assign 56 (.sub (.list [(.bin .Add (.var 14) (.var 25)), (.bi .int [(.bop .And [(.cmp (.var 25) [.GtE] [(.bin .Sub (.var 14) (.int 1))]), (.cmp (.var 25) [.NotEq] [(.var 14)])])]), (.bi .int [(.cmp (.var 25) [.GtE] [(.var 14)])])]) (.bin .Sub (.bin .Mod (.bin .FloorDiv (.var 19) (.int 80)) (.int 8)) (.int 1))), .assign 37 (.bin .Mod (.bin .Add (.var 56) (.bin .FloorDiv (.var 19) (.int 640))) (.int 2))] [], .expr (.meth .append (.var 35) [(.var 37)])], .expr (.meth .append (.var 53) [(.var 35)])],
    .ret (.var 53)]⟩
noncomputable def d_name_of_l : Def :=  -- 35
  ⟨[73], [
    .assign 28 (.bin .Add (.bin .Mult (.str "cloth ") (.bi .int [(.isi (.var 73) (.exc 2))])) (.bin .Mult (.str "thread ") (.bi .int [(.isi (.var 73) (.exc 3))]))),
    .assign 28 (.bin .Add (.bin .Add (.var 28) (.bin .Mult (.str "count ") (.bi .int [(.isi (.var 73) (.exc 4))]))) (.bin .Mult (.str "loom ") (.bi .int [(.isi (.var 73) (.exc 1))]))),
    .assign 28 (.bin .Add (.var 28) (.bin .Mult (.str "text ") (.bi .int [(.isi (.var 73) (.exc 5))]))),
    .ret (.sub (.list [(.var 28), (.str "bare")]) (.bi .int [(.not (.isi (.var 73) .valueError))]))]⟩
noncomputable def d_told_l_09 : Def :=  -- 47
  ⟨[57, 54, 55], [
    .try [.ret (.list [(.call 23 [(.var 57), (.var 54), (.var 55)])])] 0 73 (.call 35 [(.var 73)])]⟩
noncomputable def d_lies_l : Def :=  -- 48
  ⟨[57, 54, 55], [
    .assign 21 (.bi .len [(.var 57)]),
    .ret (.sub (.sub (.var 57) (.bi .min [(.var 54), (.var 55)])) (.bin .Sub (.bi .max [(.var 54), (.var 55)]) (.var 21)))]⟩
noncomputable def d_due_l : Def :=  -- 49
  ⟨[57, 54, 55], [
    .assign 21 (.bi .len [(.var 57)]),
    .assign 74 (.bin .Add (.var 21) (.bi .len [(.sub (.var 57) (.int 0))])),
    .ite (.cmp (.cmp (.var 54) [.Lt] [(.var 21)]) [.NotEq] [(.cmp (.var 55) [.Lt] [(.var 21)])]) [.ret (.str "thread ")] [],
    .for 61 (.range [(.var 74)]) [.ite (.cmp (.cmp (.var 61) [.Lt] [(.var 21)]) [.NotEq] [(.cmp (.var 54) [.Lt] [(.var 21)])]) [.ite (.cmp (.call 48 [(.var 57), (.var 54), (.var 61)]) [.NotEq] [(.call 48 [(.var 57), (.var 55), (.var 61)])]) [.ret (.list [(.var 61)])] []] []],
    .ret (.list [.none])]⟩
noncomputable def d_law_09 : Def :=  -- 50
  ⟨[13], [
    .assign 57 (.call 25 [(.var 13), (.int 2)]),
    .assign 31 (.comp (.bi .list [(.var 35)]) 35 (.val (.var 57)) []),
    .assign 21 (.bi .len [(.var 57)]),
    .assign 74 (.bin .Add (.var 21) (.bi .len [(.sub (.var 57) (.int 0))])),
    .assign 29 (.call 22 [(.var 57)]),
    .assign 62 (.lrange [(.var 74)]),
    .ite (.cmp (.var 74) [.Gt] [(.int 12)]) [.assign 62 (.slice 62 (.bin .Mod (.call 6 [(.var 13), (.int 1)]) (.int 4)) .none (.int 4))] [],
    .for 54 (.val (.var 62)) [.assign 55 (.bin .Mod (.bin .Add (.var 54) (.call 6 [(.var 13), (.int 1)])) (.var 74)), .for 80 (.val (.list [(.tup [(.var 54), (.var 55)]), (.tup [(.var 55), (.var 54)]), (.tup [(.var 54), (.var 54)]), (.tup [(.var 54), (.bin .Mod (.bin .Add (.var 54) (.int 1)) (.var 74))])])) [.assign 81 (.call 49 [(.var 57), (.sub (.var 80) (.int 0)), (.sub (.var 80) (.int 1))]), .assign 82 (.call 47 [(.var 57), (.sub (.var 80) (.int 0)), (.sub (.var 80) (.int 1))]), .ite (.bop .Or [(.cmp (.var 82) [.NotEq] [(.var 81)]), (.bop .And [(.isi (.var 82) .list), (.cmp (.var 82) [.NotEq] [(.list [.none])]), (.not (.call 10 [(.sub (.var 82) (.int 0))]))])]) [.ret (.bool false)] [], .ite (.isi (.var 81) .list) [.assign 35 (.bin .Add (.sub (.var 29) (.int 2)) (.sub (.var 29) (.int 0))), .ite (.cmp (.cmp (.sub (.var 35) (.sub (.var 80) (.int 0))) [.Eq] [(.sub (.var 35) (.sub (.var 80) (.int 1)))]) [.NotEq] [(.cmp (.var 81) [.Eq] [(.list [.none])])]) [.ret (.bool false)] []] []]],
    .assign 17 (.call 6 [(.var 13), (.int 0)]),
    .assign 76 (.sub (.list [(.var 74), (.neg (.int 1)), (.bin .Add (.var 74) (.bin .Mod (.bin .FloorDiv (.var 17) (.int 9)) (.bin .Pow (.int 10) (.int 9)))), (.bin .Sub (.neg (.int 2)) (.bin .Mod (.bin .FloorDiv (.var 17) (.int 9)) (.bin .Pow (.int 10) (.int 9)))), (.bool true), .none, (.str "0"), (.list [(.int 0)]), (.bool false)]) (.bin .Mod (.var 17) (.int 9))),
    .ite (.bop .Or [(.cmp (.call 47 [(.var 57), (.var 76), (.int 0)]) [.NotEq] [(.str "thread ")]), (.cmp (.call 47 [(.var 57), (.bin .Sub (.var 74) (.int 1)), (.var 76)]) [.NotEq] [(.str "thread ")])]) [.ret (.bool false)] [],
    .ret (.bop .And [(.cmp (.call 47 [(.var 57), (.var 76), (.var 76)]) [.Eq] [(.str "thread ")]), (.cmp (.var 57) [.Eq] [(.var 31)])])]⟩
noncomputable def defs : List Def := [d_is_among, ⟨[], []⟩, ⟨[], []⟩, ⟨[], []⟩, ⟨[], []⟩, ⟨[], []⟩, d_cell_at_l, d_drawn_l, d_size_l, ⟨[], []⟩, d_is_int_l, ⟨[], []⟩, ⟨[], []⟩, d_is_row, d_is_cloth, d_need_cloth, d_many_of, d_need_thread, d_is_weft, d_lies_over, d_crossing, d_places_of, d_loom_of, d_apart, d_kind_at_l, d_cloth_by_l, ⟨[], []⟩, ⟨[], []⟩, ⟨[], []⟩, ⟨[], []⟩, ⟨[], []⟩, ⟨[], []⟩, ⟨[], []⟩, ⟨[], []⟩, ⟨[], []⟩, d_name_of_l, ⟨[], []⟩, ⟨[], []⟩, ⟨[], []⟩, ⟨[], []⟩, ⟨[], []⟩, ⟨[], []⟩, ⟨[], []⟩, ⟨[], []⟩, ⟨[], []⟩, ⟨[], []⟩, ⟨[], []⟩, d_told_l_09, d_lies_l, d_due_l, d_law_09, ⟨[], []⟩, ⟨[], []⟩, ⟨[], []⟩, ⟨[], []⟩, ⟨[], []⟩, ⟨[], []⟩, ⟨[], []⟩, ⟨[], []⟩, ⟨[], []⟩, ⟨[], []⟩, ⟨[], []⟩, ⟨[], []⟩, ⟨[], []⟩, ⟨[], []⟩, ⟨[], []⟩, ⟨[], []⟩, ⟨[], []⟩, ⟨[], []⟩, ⟨[], []⟩, ⟨[], []⟩, ⟨[], []⟩, ⟨[], []⟩, ⟨[], []⟩, ⟨[], []⟩, ⟨[], []⟩, ⟨[], []⟩, ⟨[], []⟩, ⟨[], []⟩, ⟨[], []⟩, ⟨[], []⟩, ⟨[], []⟩, ⟨[], []⟩, ⟨[], []⟩, ⟨[], []⟩, ⟨[], []⟩, ⟨[], []⟩, ⟨[], []⟩, ⟨[], []⟩, ⟨[], []⟩, ⟨[], []⟩, ⟨[], []⟩, ⟨[], []⟩, ⟨[], []⟩, ⟨[], []⟩, ⟨[], []⟩, ⟨[], []⟩, ⟨[], []⟩, ⟨[], []⟩, ⟨[], []⟩, ⟨[], []⟩]
noncomputable def consts : List V := [.int 12]


noncomputable def cell (xs : List Int) (k : Int) : Int := (xs[k.toNat]?).getD 0
noncomputable def drawn (s k : Int) : Int := ((s + 101 * k + 7) * 48271 % 2147483647 / 7 + k) * 16807 % 2147483647 / 64
noncomputable def size (c : Int) : Int := if c / 5 % 9 = 1 then 6 + c / 45 % 7 else 1 + c % 5

theorem f_cell (n : Nat) {h : H} {xs : List Int} (hx : xs.length ≤ 63) (h0 : h[0]? = some (O.frozen (xs.map V.int))) {k : Int} (hk : 0 ≤ k) :
    Fn defs consts (n + 1) 6 [.ref 0, .int k] h = .ok (.int (cell xs k)) h := by
  rw [fn_at (d := d_cell_at_l) rfl]
  have hb : xs.length ≤ big := by unfold big; omega
  by_cases hlt : k < xs.length
  · have hk' : k.toNat < xs.length := by omega
    simp [runDef, d_cell_at_l, exs, ex, ev, evL, evC, R.bind, R.ofOpt, updL, upd, biV, bi1, cx_calm, seqAt, h0, hb, cmpV, hlt, truthV, itemV, idx, hk, cell, hk']
  · have hk' : xs.length ≤ k.toNat := by omega
    simp [runDef, d_cell_at_l, exs, ex, ev, evL, evC, R.bind, R.ofOpt, updL, upd, biV, bi1, cx_calm, seqAt, h0, hb, cmpV, hlt, truthV, itemV, idx, hk, cell, List.getElem?_eq_none hk']

theorem f_drawn (n : Nat) {h : H} (s k : Int) : Fn defs consts (n + 1) 7 [.int s, .int k] h = .ok (.int (drawn s k)) h := by
  rw [fn_at (d := d_drawn_l) rfl]
  simp [runDef, d_drawn_l, exs, ex, ev, evL, evC, R.bind, R.ofOpt, updL, upd, binV, intOp, small, drawn]

theorem f_size (n : Nat) {h : H} (c : Int) : Fn defs consts (n + 1) 8 [.int c] h = .ok (.int (size c)) h := by
  rw [fn_at (d := d_size_l) rfl]
  by_cases hc : c / 5 % 9 = 1
  · simp [runDef, d_size_l, exs, ex, ev, evL, evC, R.bind, R.ofOpt, updL, upd, binV, intOp, cmpV, eqV_int, small, size, hc, truthV]
  · simp [runDef, d_size_l, exs, ex, ev, evL, evC, R.bind, R.ofOpt, updL, upd, binV, intOp, cmpV, eqV_int, small, size, hc, truthV]

theorem f_isint (n : Nat) {h : H} (c : Int) : Fn defs consts (n + 1) 10 [.int c] h = .ok (.bool true) h := by
  rw [fn_at (d := d_is_int_l) rfl]
  simp [runDef, d_is_int_l, exs, ex, ev, evL, evB, evC, R.bind, R.ofOpt, updL, upd, kindV, isiK, tyNo, kdNo, truthV]

theorem f_among (n : Nat) {h : H} (i lo hi : Int) : Fn defs consts (n + 1) 0 [.int i, .int lo, .int hi] h = .ok (.bool (decide (lo ≤ i ∧ i ≤ hi))) h := by
  rw [fn_at (d := d_is_among) rfl]
  by_cases h1 : lo ≤ i <;> by_cases h2 : i ≤ hi <;>
  simp [runDef, d_is_among, exs, ex, ev, evL, evB, evC, R.bind, R.ofOpt, updL, upd, kindV, isiK, tyNo, kdNo, truthV, cmpV, h1, h2]

theorem size_bounds (c : Int) : 1 ≤ size c ∧ size c ≤ 12 := by unfold size; split <;> omega
noncomputable def upto (n : Int) : List Int := (List.range n.toNat).map fun j : Nat => (j : Int)
noncomputable def fromTo (a b : Int) : List Int := (List.range (b - a).toNat).map fun j : Nat => a + (j : Int)
theorem upto_mem {n x : Int} : x ∈ upto n ↔ 0 ≤ x ∧ x < n := by
  unfold upto
  simp only [List.mem_map, List.mem_range]
  constructor
  · rintro ⟨j, hj, rfl⟩; omega
  · rintro ⟨h1, h2⟩; exact ⟨x.toNat, by omega, by omega⟩
theorem fromTo_mem {a b x : Int} : x ∈ fromTo a b ↔ a ≤ x ∧ x < b := by
  unfold fromTo
  simp only [List.mem_map, List.mem_range]
  constructor
  · rintro ⟨j, hj, rfl⟩; omega
  · rintro ⟨h1, h2⟩; exact ⟨(x - a).toNat, by omega, by omega⟩
theorem upto_len (n : Int) : (upto n).length = n.toNat := by simp [upto]
theorem range1 {n : Int} (h1 : -1000000 < n) (h2 : n < 1000000) : rangeV [.int n] = some ((upto n).map V.int) := by
  simp only [rangeV, tiny, h1, h2, decide_true, Bool.and_self, if_true, countV_map, upto, List.map_map, Option.some.injEq]
  apply List.map_congr_left; intro j _; simp
theorem range2 {a b : Int} (h1 : -1000000 < a) (h2 : a < 1000000) (h3 : -1000000 < b) (h4 : b < 1000000) : rangeV [.int a, .int b] = some ((fromTo a b).map V.int) := by
  simp only [rangeV, tiny, h1, h2, h3, h4, decide_true, Bool.and_self, if_true, countV_map, fromTo, List.map_map, Option.some.injEq]
  apply List.map_congr_left; intro j _; simp

section
variable {C : Cx} {σ : Sto} {h h1 : H}
theorem evS_range1 {x : X} {n : Int} (e : ev C x σ h = .ok (.int n) h1) (g1 : -1000000 < n) (g2 : n < 1000000) : evS C (.range [x]) σ h = .ok ⟨(upto n).map V.int, none⟩ h1 := by
  simp only [evS, evL, e, R.bind, range1 g1 g2]
theorem evS_list {x : X} {a : Nat} {vs : List V} (e : ev C x σ h = .ok (.ref a) h1) (ha : h1[a]? = some (O.list vs)) : evS C (.val x) σ h = .ok ⟨vs, some (a, .list vs)⟩ h1 := by
  rw [evS, e]; simp [R.bind, srcV, ha, R.ofOpt]
theorem ev_all {x : X} {v : V} {M N : Nat} {bs : List Bool} (e : ev C x σ h = .ok v h1) (r : Rd M N h1 (.list (bs.map .bool)) v) (hc : C.calm = true := by rfl) : ev C (.bi .all [x]) σ h = .ok (.bool (bs.all id)) h1 := by
  obtain ⟨a, vs, rfl, _, _, ha, hr⟩ := r
  simp [ev, evL, e, R.bind, biV, bi1, hc, listAt, ha, allB_rd hr]

/-- a copy of a list of numbers -/
theorem ev_copy {x : X} {v : V} {M N : Nat} {xs : List Int} (e : ev C x σ h = .ok v h1) (r : Rd M N h1 (iL xs) v) (hb : xs.length ≤ big) (hc : C.calm = true := by rfl) :
    ∃ w h', ev C (.bi .list [x]) σ h = .ok w h' ∧ h1 <+: h' ∧ Rd h1.length h'.length h' (iL xs) w := by
  obtain ⟨a, vs, rfl, _, _, ha, hr⟩ := r
  obtain rfl := RdL.ints_.mp hr
  refine ⟨.ref h1.length, h1 ++ [O.list (xs.map V.int)], ?_, List.prefix_append _ _, _, _, rfl, Nat.le_refl _, by simp, by simp, RdL.ints_.mpr rfl⟩
  simp [ev, evL, e, R.bind, biV, bi1, hc, listAt, ha, hb, Mine.alloc]

theorem const0 : consts[0]? = some (V.int 12) := rfl
theorem ev_var {i : Nat} {v : V} (e : σ i = some v) : ev C (.var i) σ h = .ok v h := by rw [ev, e]; rfl
theorem ev_int (i : Int) : ev C (.int i) σ h = .ok (.int i) h := by rw [ev]
theorem ev_subL {x y : X} {a : Nat} {vs : List V} {k : Int} {v : V} {h2 : H} (e : ev C x σ h = .ok (.ref a) h1) (e' : ev C y σ h1 = .ok (.int k) h2) (ha : h2[a]? = some (O.list vs) ∨ h2[a]? = some (O.tuple vs)) (hb : vs.length ≤ big) (hk : 0 ≤ k) (hv : vs[k.toNat]? = some v) : ev C (.sub x y) σ h = .ok v h2 := by
  have hl := (List.getElem?_eq_some_iff.mp hv).1
  have hs : seqAt h2 (.ref a) = some vs := by rcases ha with ha | ha <;> simp [seqAt, ha]
  rw [ev, e]; simp only [R.bind, e', itemV, hs, idx]
  rw [if_pos ⟨hk, by omega, hb⟩]
  simp [hv, R.ofOpt]
end

end Mine

set_option autoImplicit false
set_option linter.unusedVariables false
set_option linter.unusedSimpArgs false
set_option maxRecDepth 100000
namespace Mine
open PySem

/-- two stores alike but for some slots -/
noncomputable def Agr (t : List Nat) (σ σ' : Sto) : Prop := ∀ j, j ∉ t → σ' j = σ j
theorem Agr.refl (t : List Nat) (σ : Sto) : Agr t σ σ := fun _ _ => rfl
theorem Agr.trans {t : List Nat} {a b c : Sto} (x : Agr t a b) (y : Agr t b c) : Agr t a c := fun j hj => (y j hj).trans (x j hj)
theorem Agr.upd {t : List Nat} {a b : Sto} {i : Nat} {v : V} (x : Agr t a b) (hi : i ∈ t) : Agr t a (upd b i v) := fun j hj => by
  have : j ≠ i := fun e => hj (e ▸ hi)
  simp [Mine.upd, this, x j hj]
theorem Agr.wide {t t' : List Nat} {a b : Sto} (x : Agr t a b) (h : ∀ j ∈ t, j ∈ t') : Agr t' a b := fun j hj => x j fun q => hj (h j q)

theorem pre_set {h h1 : H} {a : Nat} {o : O} (hp : h <+: h1) (ha : h.length ≤ a) : h <+: h1.set a o := by
  obtain ⟨Δ, rfl⟩ := hp
  rw [List.set_append_right _ _ ha]
  exact List.prefix_append _ _

section
variable {C : Cx} {σ : Sto} {h h1 h2 : H}
theorem ev_append {o x : X} {a : Nat} {vs : List V} {v : V} (eo : ev C o σ h = .ok (.ref a) h1) (ha : h1[a]? = some (O.list vs)) (ex : ev C x σ h1 = .ok v h2) (ha1 : h2[a]? = some (O.list vs)) (hb : vs.length ≤ big) :
    ev C (.meth .append o [x]) σ h = .ok .none (h2.set a (.list (vs ++ [v]))) := by
  rw [ev, eo]
  simp [R.bind, kindV, ha, evL, ex, meV, ha1, hb]
end

end Mine

set_option autoImplicit false
set_option linter.unusedVariables false
set_option linter.unusedSimpArgs false
set_option maxRecDepth 100000
namespace Mine
open PySem

section
variable {C : Cx} {σ : Sto} {h h1 h2 h3 : H} {x y z : X} {u v w : V}
theorem ev_bop {op : BoolOp} {es : List X} : ev C (.bop op es) σ h = evB C op es σ h := by rw [ev]
theorem b_one {op : BoolOp} : evB C op [x] σ h = ev C x σ h := by rw [evB]
theorem andT {ys : List X} (e : ev C x σ h = .ok (.bool true) h1) : evB C .And (x :: y :: ys) σ h = evB C .And (y :: ys) σ h1 := by rw [evB, e]; rfl
theorem andF {ys : List X} (e : ev C x σ h = .ok (.bool false) h1) : evB C .And (x :: y :: ys) σ h = .ok (.bool false) h1 := by rw [evB, e]; rfl
theorem orF {ys : List X} (e : ev C x σ h = .ok (.bool false) h1) : evB C .Or (x :: y :: ys) σ h = evB C .Or (y :: ys) σ h1 := by rw [evB, e]; rfl
theorem orT {ys : List X} (e : ev C x σ h = .ok (.bool true) h1) : evB C .Or (x :: y :: ys) σ h = .ok (.bool true) h1 := by rw [evB, e]; rfl
theorem ev_not {b : Bool} (e : ev C x σ h = .ok (.bool b) h1) : ev C (.not x) σ h = .ok (.bool (!b)) h1 := by rw [ev, e]; rfl
theorem ev_cmp {op : CmpOp} {t : Bool} (e1 : ev C x σ h = .ok u h1) (e2 : ev C y σ h1 = .ok v h2) (hc : cmpV op u v h2 = some t) : ev C (.cmp x [op] [y]) σ h = .ok (.bool t) h2 := by
  rw [ev, e1]; simp only [R.bind, evC, e2, hc]
theorem ev_cmp2 {op op' : CmpOp} {t : Bool} (e1 : ev C x σ h = .ok u h1) (e2 : ev C y σ h1 = .ok v h2) (hc : cmpV op u v h2 = some true) (e3 : ev C z σ h2 = .ok w h3) (hd : cmpV op' v w h3 = some t) : ev C (.cmp x [op, op'] [y, z]) σ h = .ok (.bool t) h3 := by
  rw [ev, e1]; simp only [R.bind, evC, e2, hc, e3, hd]
theorem evL_nil : evL C [] σ h = .ok [] h := by rw [evL]
theorem evL_cons {xs : List X} {vs : List V} (e : ev C x σ h = .ok u h1) (es : evL C xs σ h1 = .ok vs h2) : evL C (x :: xs) σ h = .ok (u :: vs) h2 := by
  rw [evL, e]; simp only [R.bind, es]
theorem evL_1 (e : ev C x σ h = .ok u h1) : evL C [x] σ h = .ok [u] h1 := evL_cons e evL_nil
theorem ev_call {f : Nat} {xs : List X} {vs : List V} {r : R V} (e : evL C xs σ h = .ok vs h1) (ef : C.F f vs h1 = r) : ev C (.call f xs) σ h = r := by rw [ev, e]; exact ef
theorem ev_len {a : Nat} {vs : List V} (e : ev C x σ h = .ok (.ref a) h1) (ha : h1[a]? = some (O.list vs) ∨ h1[a]? = some (O.tuple vs)) (hb : vs.length ≤ big) (hc : C.calm = true := by rfl) : ev C (.bi .len [x]) σ h = .ok (.int vs.length) h1 := by
  have hs : seqAt h1 (.ref a) = some vs := by rcases ha with ha | ha <;> simp only [seqAt, ha]
  rw [ev, evL_1 e]; simp only [R.bind, hc, Bool.true_or, if_true, biV, bi1, hs, hb]
theorem ev_isList {a : Nat} {vs : List V} (e : ev C x σ h = .ok (.ref a) h1) (ha : h1[a]? = some (O.list vs)) : ev C (.isi x .list) σ h = .ok (.bool true) h1 := by
  rw [ev, e]; simp [R.bind, kindV, ha, isiK, tyNo, kdNo]
theorem ev_bin {op : Operator} {r : R V} (e1 : ev C x σ h = .ok u h1) (e2 : ev C y σ h1 = .ok v h2) (hb : binV op u v h2 = r) : ev C (.bin op x y) σ h = r := by rw [ev, e1]; simp only [R.bind, e2, hb]
theorem ev_glob {i : Nat} (e : C.G i = some v) : ev C (.glob i) σ h = .ok v h := by rw [ev, e]; rfl
end

/-! a cloth -/
structure IsCl (m : List (List Int)) (w : Nat) : Prop where
  len : 1 ≤ m.length ∧ m.length ≤ 12
  wid : 1 ≤ w ∧ w ≤ 12
  row : ∀ r ∈ m, r.length = w ∧ ∀ x ∈ r, 0 ≤ x ∧ x ≤ 1

theorem f_row (n : Nat) {h : H} {a : Nat} {xs : List Int} (ha : h[a]? = some (O.list (xs.map V.int))) (hl : 1 ≤ xs.length ∧ xs.length ≤ 12) (hx : ∀ x ∈ xs, 0 ≤ x ∧ x ≤ 1) :
    ∃ h', Fn defs consts (n + 2) 13 [.ref a] h = .ok (.bool true) h' ∧ h <+: h' := by
  rw [fn_at (d := d_is_row) rfl]
  have hb : (xs.map V.int).length ≤ big := by rw [List.length_map]; unfold big; omega
  obtain ⟨v, h', e, p, r⟩ := comp_all (C := cx defs consts (n + 1)) (σ := updL noSto [0] [.ref a]) (h := h) (elt := (.call 0 [(.var 4), (.int 0), (.int 1)])) (i := 4) (it := .val (.var 0))
    h.length (intPairs xs) (fun x => .bool (decide (0 ≤ x ∧ x ≤ 1))) (evS_list (ev_var rfl) ha) (by rw [intPairs_1]) (by simpa [intPairs] using hb) ha (Nat.le_refl _) (fun q hq h2 _ => by
      obtain ⟨_, hq⟩ := intPairs_mem hq
      exact ⟨_, h2, ev_call (evL_cons (ev_var (v := .int q.2) (by rw [← hq]; rfl)) (evL_cons (ev_int 0) (evL_1 (ev_int 1)))) (f_among n q.2 0 1), List.prefix_refl _, rfl⟩)
  rw [intPairs_2] at r
  have e2 := ev_all (bs := xs.map fun x => decide (0 ≤ x ∧ x ≤ 1)) e (by rw [List.map_map]; exact r)
  rw [show (xs.map fun x => decide (0 ≤ x ∧ x ≤ 1)).all id = true from by
    rw [List.all_map, List.all_eq_true]; intro x hm; exact decide_eq_true (hx x hm)] at e2
  refine ⟨h', ?_, p⟩
  simp only [runDef, d_is_row, List.length_cons, List.length_nil, if_true]
  rw [exs_ret (ex_retv (ev_bop.trans ((andT (ev_isList (ev_var rfl) ha)).trans ((andT (ev_cmp2 (ev_int 1) (ev_len (ev_var rfl) (.inl ha) hb) (by rw [List.length_map]; simp only [cmpV]; exact congrArg some (decide_eq_true (by omega))) (ev_glob const0)
    (by rw [List.length_map]; simp only [cmpV]; exact congrArg some (decide_eq_true (by omega))))).trans (b_one.trans e2)))))]
end Mine

set_option autoImplicit false
set_option linter.unusedVariables false
set_option linter.unusedSimpArgs false
set_option maxRecDepth 100000
namespace Mine
open PySem

/-- the rows of a list of lists of numbers -/
theorem rows_at {M N : Nat} {h : H} {m : List (List Int)} {v : V} (r : Rd M N h (iLL m) v) : ∃ a vs, v = .ref a ∧ M ≤ a ∧ a < N ∧ h[a]? = some (O.list vs) ∧ RdL M N h (m.map iL) vs ∧ vs.length = m.length := by
  obtain ⟨a, vs, rfl, h1, h2, h3, h4⟩ := r
  exact ⟨a, vs, rfl, h1, h2, h3, h4, by rw [h4.length, List.length_map]⟩
theorem row_is {M N : Nat} {h : H} {xs : List Int} {v : V} (r : Rd M N h (iL xs) v) : ∃ a, v = .ref a ∧ M ≤ a ∧ a < N ∧ h[a]? = some (O.list (xs.map V.int)) := by
  obtain ⟨a, vs, rfl, h1, h2, h3, h4⟩ := r
  obtain rfl := RdL.ints_.mp h4
  exact ⟨a, rfl, h1, h2, h3⟩
theorem rd_row {M N a : Nat} {h : H} {xs : List Int} (h1 : M ≤ a) (h2 : a < N) (h3 : h[a]? = some (O.list (xs.map V.int))) : Rd M N h (iL xs) (.ref a) := ⟨a, _, rfl, h1, h2, h3, RdL.ints_.mpr rfl⟩

theorem f_cloth (n : Nat) {h : H} {v : V} {M N w : Nat} {m : List (List Int)} (r : Rd M N h (iLL m) v) (L : IsCl m w) :
    ∃ h', Fn defs consts (n + 3) 14 [v] h = .ok (.bool true) h' ∧ h <+: h' := by
  rw [fn_at (d := d_is_cloth) rfl]
  obtain ⟨a, vs, rfl, _, haN, ha, rl, lv⟩ := rows_at r
  have hb : vs.length ≤ big := by have := L.len; unfold big; omega
  obtain ⟨z1, z2, z3⟩ := zip_pairs rl
  have zl : (vs.zip m).length ≤ big := by have := congrArg List.length z1; rw [List.length_map] at this; omega
  obtain ⟨v1, h1, e1, p1, q1⟩ := comp_all (C := cx defs consts (n + 2)) (σ := updL noSto [0] [.ref a]) (h := h) (elt := .call 13 [.var 38]) (i := 38) (it := .val (.var 0))
    h.length (vs.zip m) (fun _ => .bool true) (evS_list (ev_var rfl) ha) z1.symm zl ha (Nat.le_refl _) (fun q hq h3 p3 => by
      obtain ⟨m1, m2⟩ := z3 q hq
      obtain ⟨b, hb, _, hbN, hb3⟩ := row_is m2
      obtain ⟨h4, e4, p4⟩ := f_row n (pre_get p3 hb3) (by rw [(L.row _ m1).1]; exact L.wid) (L.row _ m1).2
      exact ⟨_, h4, ev_call (evL_1 (ev_var (v := .ref b) (by rw [← hb]; rfl))) e4, p4, rfl⟩)
  have e2 := ev_all (bs := m.map fun _ => true) e1 (by rw [z2] at q1; rw [List.map_map]; exact q1)
  rw [show (m.map fun _ => true).all id = true from by simp] at e2
  have ha1 := pre_get p1 ha
  have hz : 0 < m.length := by have := L.len; omega
  obtain ⟨w0, hw0, rw0⟩ := rl.at (i := 0) (d := iL m[0]) (by rw [List.getElem?_map, List.getElem?_eq_getElem hz]; rfl)
  obtain ⟨b0, rfl, _, _, hb0⟩ := row_is rw0
  have big1 : ∀ x ∈ m, (x.map V.int).length ≤ big := fun x hx => by rw [List.length_map, (L.row x hx).1]; have := L.wid; unfold big; omega
  obtain ⟨v2, h2, e3, p2, q2⟩ := comp_all (C := cx defs consts (n + 2)) (σ := updL noSto [0] [.ref a]) (h := h1) (elt := (.cmp (.bi .len [(.var 38)]) [.Eq] [(.bi .len [(.sub (.var 0) (.int 0))])])) (i := 38) (it := .val (.var 0))
    h.length (vs.zip m) (fun _ => .bool true) (evS_list (ev_var rfl) ha1) z1.symm zl ha1 (pre_len p1) (fun q hq h3 p3 => by
      obtain ⟨m1, m2⟩ := z3 q hq
      obtain ⟨b, hb, _, hbN, hb3⟩ := row_is m2
      refine ⟨_, h3, ev_cmp (ev_len (ev_var (v := .ref b) (by rw [← hb]; rfl)) (.inl (pre_get (p1.trans p3) hb3)) (big1 _ m1))
        (ev_len (ev_subL (ev_var (v := .ref a) rfl) (ev_int 0) (.inl (pre_get (p1.trans p3) ha)) ‹_› (Int.le_refl 0) hw0) (.inl (pre_get (p1.trans p3) hb0)) (big1 _ (List.getElem_mem hz))) (t := true) ?_, List.prefix_refl _, rfl⟩
      rw [List.length_map, List.length_map, (L.row _ m1).1, (L.row _ (List.getElem_mem hz)).1]
      simp only [cmpV, eqV_int, decide_true])
  have e4 := ev_all (bs := m.map fun _ => true) e3 (by rw [z2] at q2; rw [List.map_map]; exact q2)
  rw [show (m.map fun _ => true).all id = true from by simp] at e4
  refine ⟨h2, ?_, p1.trans p2⟩
  simp only [runDef, d_is_cloth, List.length_cons, List.length_nil, if_true]
  rw [exs_next (σ' := updL noSto [0] [.ref a]) (h' := h), exs_ret (ex_retv (ev_bop.trans ((andT e2).trans (b_one.trans e4))))]
  rw [ex_iteF (ev_bop.trans ((orF (ev_not (ev_isList (ev_var rfl) ha))).trans (b_one.trans (ev_not (ev_cmp2 (t := true) (ev_int 1) (ev_len (ev_var rfl) (.inl ha) hb) (by have := L.len; simp only [cmpV]; exact congrArg some (decide_eq_true (by omega))) (ev_glob const0)
    (by have := L.len; simp only [cmpV]; exact congrArg some (decide_eq_true (by omega)))))))), exs_nil]

/-- a cloth copied, row by row -/
theorem ev_clothCopy {C : Cx} {σ : Sto} {h h1 : H} {s : Nat} {x : X} {v : V} {M N w : Nat} {m : List (List Int)} (e : ev C x σ h = .ok v h1) (r : Rd M N h1 (iLL m) v) (hN : N ≤ h1.length) (L : IsCl m w) (hc : C.calm = true := by rfl) :
    ∃ w' h', ev C (.comp (.bi .list [(.var s)]) s (.val x) []) σ h = .ok w' h' ∧ h1 <+: h' ∧ Rd h1.length h'.length h' (iLL m) w' := by
  obtain ⟨a, vs, rfl, _, haN, ha, rl, lv⟩ := rows_at r
  obtain ⟨z1, z2, z3⟩ := zip_pairs rl
  have zl : (vs.zip m).length ≤ big := by have := congrArg List.length z1; rw [List.length_map] at this; have := L.len; unfold big; omega
  obtain ⟨v1, h2, e1, p1, q1⟩ := comp_all (C := C) (σ := σ) (h := h) (elt := .bi .list [.var s]) (i := s) (it := .val x) h1.length (vs.zip m) iL (evS_list e ha) z1.symm zl ha (Nat.le_refl _) (fun q hq h3 p3 => by
    obtain ⟨m1, m2⟩ := z3 q hq
    obtain ⟨y, h4, e4, p4, q4⟩ := ev_copy (C := C) (σ := upd σ s q.1) (x := .var s) (h := h3) (h1 := h3) (ev_var (by simp only [upd, if_true])) (m2.pre p3 hN (Nat.le_refl _) (Nat.le_refl _)) (by rw [(L.row _ m1).1]; have := L.wid; unfold big; omega) hc
    exact ⟨y, h4, e4, p4, q4.wide (pre_len p3) (Nat.le_refl _)⟩) hc
  rw [z2] at q1
  exact ⟨v1, h2, e1, p1, q1⟩

theorem f_needCloth (n : Nat) {h : H} {v : V} {M N w : Nat} {m : List (List Int)} (r : Rd M N h (iLL m) v) (hN : N ≤ h.length) (L : IsCl m w) :
    ∃ w' h', Fn defs consts (n + 4) 15 [v] h = .ok w' h' ∧ h <+: h' ∧ Rd h.length h'.length h' (iLL m) w' := by
  rw [fn_at (d := d_need_cloth) rfl]
  obtain ⟨h1, e1, p1⟩ := f_cloth n r L
  obtain ⟨w', h2, e2, p2, q⟩ := ev_clothCopy (C := cx defs consts (n + 3)) (σ := updL noSto [0] [v]) (s := 38) (ev_var (i := 0) (v := v) rfl) (r.pre p1 hN (Nat.le_refl _) (Nat.le_refl _)) (Nat.le_trans hN (pre_len p1)) L
  refine ⟨w', h2, ?_, p1.trans p2, q.wide (pre_len p1) (Nat.le_refl _)⟩
  simp only [runDef, d_need_cloth, List.length_cons, List.length_nil, if_true]
  rw [exs_next (σ' := updL noSto [0] [v]) (h' := h1), exs_ret (ex_retv e2)]
  rw [ex_iteF (ev_not (b := true) (ev_call (evL_1 (ev_var (i := 0) (v := v) rfl)) e1)), exs_nil]
end Mine

set_option autoImplicit false
set_option linter.unusedVariables false
set_option linter.unusedSimpArgs false
set_option maxRecDepth 100000
namespace Mine
open PySem

section
variable {C : Cx} {σ : Sto} {h h1 h2 : H} {x y : X} {a b : Int}
theorem i_add (e1 : ev C x σ h = .ok (.int a) h1) (e2 : ev C y σ h1 = .ok (.int b) h2) : ev C (.bin .Add x y) σ h = .ok (.int (a + b)) h2 := ev_bin e1 e2 rfl
theorem i_sub (e1 : ev C x σ h = .ok (.int a) h1) (e2 : ev C y σ h1 = .ok (.int b) h2) : ev C (.bin .Sub x y) σ h = .ok (.int (a - b)) h2 := ev_bin e1 e2 rfl
theorem i_mul (e1 : ev C x σ h = .ok (.int a) h1) (e2 : ev C y σ h1 = .ok (.int b) h2) (hs : small a = true ∨ small b = true) : ev C (.bin .Mult x y) σ h = .ok (.int (a * b)) h2 := ev_bin e1 e2 (by
  simp only [binV, intOp]; rw [if_pos (by rcases hs with hs | hs <;> rw [hs] <;> simp)])
theorem i_div (e1 : ev C x σ h = .ok (.int a) h1) (e2 : ev C y σ h1 = .ok (.int b) h2) (hb : 0 < b ∧ b < 1073741824) : ev C (.bin .FloorDiv x y) σ h = .ok (.int (a / b)) h2 := ev_bin e1 e2 (by simp only [binV, intOp]; rw [if_pos hb])
theorem i_mod (e1 : ev C x σ h = .ok (.int a) h1) (e2 : ev C y σ h1 = .ok (.int b) h2) (hb : 0 < b) : ev C (.bin .Mod x y) σ h = .ok (.int (a % b)) h2 := ev_bin e1 e2 (by simp only [binV, intOp]; rw [if_pos hb])
theorem i_eq (e1 : ev C x σ h = .ok (.int a) h1) (e2 : ev C y σ h1 = .ok (.int b) h2) : ev C (.cmp x [.Eq] [y]) σ h = .ok (.bool (decide (a = b))) h2 := ev_cmp e1 e2 (by simp only [cmpV, eqV_int])
theorem i_lt (e1 : ev C x σ h = .ok (.int a) h1) (e2 : ev C y σ h1 = .ok (.int b) h2) : ev C (.cmp x [.Lt] [y]) σ h = .ok (.bool (decide (a < b))) h2 := ev_cmp e1 e2 rfl
theorem i_gt (e1 : ev C x σ h = .ok (.int a) h1) (e2 : ev C y σ h1 = .ok (.int b) h2) : ev C (.cmp x [.Gt] [y]) σ h = .ok (.bool (decide (b < a))) h2 := ev_cmp e1 e2 rfl
theorem i_ge (e1 : ev C x σ h = .ok (.int a) h1) (e2 : ev C y σ h1 = .ok (.int b) h2) : ev C (.cmp x [.GtE] [y]) σ h = .ok (.bool (decide (b ≤ a))) h2 := ev_cmp e1 e2 rfl
theorem i_ne (e1 : ev C x σ h = .ok (.int a) h1) (e2 : ev C y σ h1 = .ok (.int b) h2) : ev C (.cmp x [.NotEq] [y]) σ h = .ok (.bool (!decide (a = b))) h2 := ev_cmp e1 e2 (by simp only [cmpV, eqV_int, Option.map_some])
theorem i_int {t : Bool} (e1 : ev C x σ h = .ok (.bool t) h1) : ev C (.bi .int [x]) σ h = .ok (.int (if t then 1 else 0)) h1 := by
  rw [ev, evL_1 e1]; simp only [R.bind, easy, Bool.or_true, if_true, biV, bi1]
theorem e_and {s t : Bool} (e1 : ev C x σ h = .ok (.bool s) h1) (e2 : ev C y σ h1 = .ok (.bool t) h1) : ev C (.bop .And [x, y]) σ h = .ok (.bool (s && t)) h1 := by
  cases s
  · exact ev_bop.trans (andF e1)
  · exact ev_bop.trans ((andT e1).trans (b_one.trans e2))
theorem e_or {s t : Bool} (e1 : ev C x σ h = .ok (.bool s) h1) (e2 : ev C y σ h1 = .ok (.bool t) h1) : ev C (.bop .Or [x, y]) σ h = .ok (.bool (s || t)) h1 := by
  cases s
  · exact ev_bop.trans ((orF e1).trans (b_one.trans e2))
  · exact ev_bop.trans (orT e1)
theorem ev_list {es : List X} {vs : List V} (e : evL C es σ h = .ok vs h1) (hb : vs.length ≤ big) : ev C (.list es) σ h = .ok (.ref h1.length) (h1 ++ [.list vs]) := by
  rw [ev, e]; simp only [R.bind, hb, if_true, Mine.alloc]
/-- one of a written list -/
theorem ev_pick {es : List X} {vs : List V} {k : Int} {v : V} (e : evL C es σ h = .ok vs h1) (e' : ev C y σ (h1 ++ [.list vs]) = .ok (.int k) h2) (hp : h1 ++ [O.list vs] <+: h2) (hb : vs.length ≤ big) (hk : 0 ≤ k) (hv : vs[k.toNat]? = some v) :
    ev C (.sub (.list es) y) σ h = .ok v h2 := ev_subL (ev_list e hb) e' (.inl (pre_get hp (by simp))) hb hk hv
end

theorem ev_callF {n f : Nat} {σ : Sto} {h h1 : H} {xs : List X} {vs : List V} {r : R V} (e : evL (cx defs consts n) xs σ h = .ok vs h1) (ef : Fn defs consts n f vs h1 = r) : ev (cx defs consts n) (.call f xs) σ h = r := ev_call e ef

noncomputable def kindAt (s k f : Int) : Int := if 11 < f then k else drawn s (300 + k) % f
theorem f_kind (n : Nat) {h : H} (s k f : Int) (hf : 0 < f) : Fn defs consts (n + 2) 24 [.int s, .int k, .int f] h = .ok (.int (kindAt s k f)) h := by
  rw [fn_at (d := d_kind_at_l) rfl]
  simp only [runDef, d_kind_at_l, List.length_cons, List.length_nil, if_true]
  by_cases hc : 11 < f
  · rw [show kindAt s k f = k from if_pos hc]
    rw [exs_ret (v := .int k) (h' := h)]
    rw [ex_iteT (h' := h), exs_ret (ex_retv (ev_var rfl))]
    exact (i_gt (ev_var (v := .int f) rfl) (ev_int 11)).trans (by rw [decide_eq_true hc])
  · rw [show kindAt s k f = drawn s (300 + k) % f from if_neg hc]
    rw [exs_next (σ' := updL noSto [15, 14, 49] [.int s, .int k, .int f]) (h' := h), exs_ret (ex_retv (i_mod (ev_call (evL_cons (ev_var (v := .int s) rfl) (evL_1 (i_add (ev_int 300) (ev_var (v := .int k) rfl)))) (f_drawn n s (300 + k))) (ev_var (v := .int f) rfl) hf))]
    rw [ex_iteF (h' := h), exs_nil]
    exact (i_gt (ev_var (v := .int f) rfl) (ev_int 11)).trans (by rw [decide_eq_false hc])
end Mine

set_option autoImplicit false
set_option linter.unusedVariables false
set_option linter.unusedSimpArgs false
set_option maxRecDepth 100000
namespace Mine
open PySem

/-- the slots that a turn of the drawing of a cloth reads -/
structure Drw (σ : Sto) (seed more f k : Int) (wa : Int) (made : Nat) (a51 a52 : Nat) : Prop where
  s15 : σ 15 = some (.int seed)
  s19 : σ 19 = some (.int more)
  s20 : σ 20 = some (.int wa)
  s50 : σ 50 = some (.int f)
  s51 : σ 51 = some (.ref a51)
  s52 : σ 52 = some (.ref a52)
  s53 : σ 53 = some (.ref made)
theorem Drw.agr {σ σ' : Sto} {seed more f k wa : Int} {made a51 a52 : Nat} (x : Drw σ seed more f k wa made a51 a52) (ag : Agr [14, 25, 35, 37, 54, 55, 56] σ σ') : Drw σ' seed more f k wa made a51 a52 :=
  ⟨by rw [ag 15 (by decide)]; exact x.s15, by rw [ag 19 (by decide)]; exact x.s19, by rw [ag 20 (by decide)]; exact x.s20, by rw [ag 50 (by decide)]; exact x.s50, by rw [ag 51 (by decide)]; exact x.s51, by rw [ag 52 (by decide)]; exact x.s52, by rw [ag 53 (by decide)]; exact x.s53⟩

noncomputable def signBody : List S := [.assign 54 (.bin .Mod (.call 7 [(.bin .FloorDiv (.var 19) (.int 640)), (.sub (.var 51) (.var 14))]) (.var 50)), .assign 55 (.bin .Mod (.call 7 [(.bin .FloorDiv (.var 19) (.int 640)), (.bin .Add (.int 50) (.sub (.var 52) (.var 25)))]) (.var 50)), .assign 37 (.bi .int [(.cmp (.var 55) [.Lt] [(.var 54)])]), .ite (.cmp (.var 54) [.Eq] [(.var 55)]) [.assign 37 (.bin .Mod (.call 7 [(.var 15), (.bin .Add (.bin .Mult (.int 20) (.sub (.var 51) (.var 14))) (.sub (.var 52) (.var 25)))]) (.int 2))] [], .ite (.bop .And [(.cmp (.bin .Mod (.bin .FloorDiv (.var 19) (.int 80)) (.int 8)) [.Gt] [(.int 0)]), (.cmp (.bin .Mod (.bin .FloorDiv (.var 19) (.int 80)) (.int 8)) [.Lt] [(.int 4)])]) [.assign 56 (.sub (.list [(.bin .Add (.var 14) (.var 25)), (.bi .int [(.bop .And [(.cmp (.var 25) [.GtE] [(.bin .Sub (.var 14) (.int 1))]), (.cmp (.var 25) [.NotEq] [(.var 14)])])]), (.bi .int [(.cmp (.var 25) [.GtE] [(.var 14)])])]) (.bin .Sub (.bin .Mod (.bin .FloorDiv (.var 19) (.int 80)) (.int 8)) (.int 1))), .assign 37 (.bin .Mod (.bin .Add (.var 56) (.bin .FloorDiv (.var 19) (.int 640))) (.int 2))] [], .expr (.meth .append (.var 35) [(.var 37)])]

theorem sign_turn (n : Nat) {σ : Sto} {h : H} {seed more f k j wa : Int} {made a51 a52 row : Nat} {dn rt : List Int} {vs : List V} (D : Drw σ seed more f 0 wa made a51 a52) (s14 : σ 14 = some (.int k)) (s25 : σ 25 = some (.int j)) (s35 : σ 35 = some (.ref row))
    (hf : 0 < f) (h51 : h[a51]? = some (O.list (dn.map V.int))) (h52 : h[a52]? = some (O.list (rt.map V.int))) (hk : 0 ≤ k ∧ k < dn.length) (hj : 0 ≤ j ∧ j < rt.length) (hd : dn.length ≤ 12) (hr : rt.length ≤ 12)
    (hrow : h[row]? = some (O.list vs)) (hv : vs.length ≤ 12) :
    ∃ σ' sg h1, exs (cx defs consts (n + 1)) signBody σ h = .next σ' (h1.set row (.list (vs ++ [.int sg]))) ∧ h <+: h1 ∧ Agr [37, 54, 55, 56] σ σ' ∧ 0 ≤ sg ∧ sg ≤ 1 := by
  have k1 : k.toNat < dn.length := by omega
  have j1 : j.toNat < rt.length := by omega
  have bd : (dn.map V.int).length ≤ big := by rw [List.length_map]; unfold big; omega
  have br : (rt.map V.int).length ≤ big := by rw [List.length_map]; unfold big; omega
  -- what is read of the two lists, in any heap above
  have rd51 : ∀ {σ' : Sto} {h' : H}, σ' 51 = some (.ref a51) → σ' 14 = some (.int k) → h <+: h' → ev (cx defs consts (n + 1)) (.sub (.var 51) (.var 14)) σ' h' = .ok (.int dn[k.toNat]) h' := fun q1 q2 p =>
    ev_subL (ev_var q1) (ev_var q2) (.inl (pre_get p h51)) bd hk.1 (by rw [List.getElem?_map, List.getElem?_eq_getElem k1]; rfl)
  have rd52 : ∀ {σ' : Sto} {h' : H}, σ' 52 = some (.ref a52) → σ' 25 = some (.int j) → h <+: h' → ev (cx defs consts (n + 1)) (.sub (.var 52) (.var 25)) σ' h' = .ok (.int rt[j.toNat]) h' := fun q1 q2 p =>
    ev_subL (ev_var q1) (ev_var q2) (.inl (pre_get p h52)) br hj.1 (by rw [List.getElem?_map, List.getElem?_eq_getElem j1]; rfl)
  have pr := List.prefix_refl h
  unfold signBody
  rw [exs_next (ex_assign (i_mod (ev_callF (evL_cons (i_div (ev_var D.s19) (ev_int 640) (by decide)) (evL_1 (rd51 D.s51 s14 pr))) (f_drawn n (more / 640) dn[k.toNat])) (ev_var D.s50) hf))]
  generalize drawn (more / 640) dn[k.toNat] % f = one
  rw [exs_next (ex_assign (i_mod (ev_callF (evL_cons (i_div (ev_var (by exact D.s19)) (ev_int 640) (by decide)) (evL_1 (i_add (ev_int 50) (rd52 (by exact D.s52) (by exact s25) pr)))) (f_drawn n (more / 640) (50 + rt[j.toNat]))) (ev_var (by exact D.s50)) hf))]
  generalize drawn (more / 640) (50 + rt[j.toNat]) % f = oth
  rw [exs_next (ex_assign (i_int (i_lt (ev_var (v := .int oth) rfl) (ev_var (v := .int one) rfl))))]
  generalize hσ : upd (upd (upd σ 54 (V.int one)) 55 (V.int oth)) 37 (V.int (if decide (oth < one) = true then 1 else 0)) = σ3
  have ag3 : Agr [37, 54, 55, 56] σ σ3 := by rw [← hσ]; exact (((Agr.refl _ σ).upd (by decide)).upd (by decide)).upd (by decide)
  have q37 : ∃ g, σ3 37 = some (.int g) ∧ 0 ≤ g ∧ g ≤ 1 := by
    rw [← hσ]
    refine ⟨_, rfl, ?_, ?_⟩ <;> split <;> decide
  have q54 : σ3 54 = some (.int one) := by rw [← hσ]; rfl
  have q55 : σ3 55 = some (.int oth) := by rw [← hσ]; rfl
  clear hσ
  -- the first test
  obtain ⟨σ4, e4, ag4, q37⟩ : ∃ σ4, ex (cx defs consts (n + 1)) (.ite (.cmp (.var 54) [.Eq] [(.var 55)]) [.assign 37 (.bin .Mod (.call 7 [(.var 15), (.bin .Add (.bin .Mult (.int 20) (.sub (.var 51) (.var 14))) (.sub (.var 52) (.var 25)))]) (.int 2))] []) σ3 h = .next σ4 h ∧ Agr [37, 54, 55, 56] σ σ4 ∧ ∃ g, σ4 37 = some (.int g) ∧ 0 ≤ g ∧ g ≤ 1 := by
    have et := i_eq (C := cx defs consts (n + 1)) (h := h) (ev_var q54) (ev_var q55)
    by_cases hc : one = oth
    · rw [decide_eq_true hc] at et
      refine ⟨upd σ3 37 (.int (drawn seed (20 * dn[k.toNat] + rt[j.toNat]) % 2)), ?_, ag3.upd (by decide), _, rfl, by omega, by omega⟩
      rw [ex_iteT et, exs_next (ex_assign (i_mod (ev_callF (evL_cons (ev_var (v := .int seed) (by rw [ag3 15 (by decide)]; exact D.s15)) (evL_1 (i_add (i_mul (ev_int 20) (rd51 (by rw [ag3 51 (by decide)]; exact D.s51) (by rw [ag3 14 (by decide)]; exact s14) pr) (.inl (by decide))) (rd52 (by rw [ag3 52 (by decide)]; exact D.s52) (by rw [ag3 25 (by decide)]; exact s25) pr)))) (f_drawn n _ _)) (ev_int 2) (by decide))), exs_nil]
    · rw [decide_eq_false hc] at et
      exact ⟨σ3, by rw [ex_iteF et, exs_nil], ag3, q37⟩
  rw [exs_next e4]
  clear e4 q54 q55 ag3
  -- the second
  obtain ⟨σ5, h5, e5, p5, ag5, g, q37, g0, g1⟩ : ∃ σ5 h5, ex (cx defs consts (n + 1)) (.ite (.bop .And [(.cmp (.bin .Mod (.bin .FloorDiv (.var 19) (.int 80)) (.int 8)) [.Gt] [(.int 0)]), (.cmp (.bin .Mod (.bin .FloorDiv (.var 19) (.int 80)) (.int 8)) [.Lt] [(.int 4)])]) [.assign 56 (.sub (.list [(.bin .Add (.var 14) (.var 25)), (.bi .int [(.bop .And [(.cmp (.var 25) [.GtE] [(.bin .Sub (.var 14) (.int 1))]), (.cmp (.var 25) [.NotEq] [(.var 14)])])]), (.bi .int [(.cmp (.var 25) [.GtE] [(.var 14)])])]) (.bin .Sub (.bin .Mod (.bin .FloorDiv (.var 19) (.int 80)) (.int 8)) (.int 1))), .assign 37 (.bin .Mod (.bin .Add (.var 56) (.bin .FloorDiv (.var 19) (.int 640))) (.int 2))] []) σ4 h = .next σ5 h5 ∧ h <+: h5 ∧ Agr [37, 54, 55, 56] σ σ5 ∧ ∃ g, σ5 37 = some (.int g) ∧ 0 ≤ g ∧ g ≤ 1 := by
    have s19 : σ4 19 = some (.int more) := by rw [ag4 19 (by decide)]; exact D.s19
    have s14' : σ4 14 = some (.int k) := by rw [ag4 14 (by decide)]; exact s14
    have s25' : σ4 25 = some (.int j) := by rw [ag4 25 (by decide)]; exact s25
    have et : ∀ {h' : H}, ev (cx defs consts (n + 1)) (.bin .Mod (.bin .FloorDiv (.var 19) (.int 80)) (.int 8)) σ4 h' = .ok (.int (more / 80 % 8)) h' := i_mod (i_div (ev_var s19) (ev_int 80) (by decide)) (ev_int 8) (by decide)
    have ec := e_and (C := cx defs consts (n + 1)) (σ := σ4) (h := h) (i_gt et (ev_int 0)) (i_lt et (ev_int 4))
    by_cases hc : 0 < more / 80 % 8 ∧ more / 80 % 8 < 4
    · rw [decide_eq_true hc.1, decide_eq_true hc.2] at ec
      have el := evL_cons (C := cx defs consts (n + 1)) (σ := σ4) (h := h) (i_add (ev_var s14') (ev_var s25')) (evL_cons (i_int (e_and (i_ge (ev_var s25') (i_sub (ev_var s14') (ev_int 1))) (i_ne (ev_var s25') (ev_var s14')))) (evL_1 (i_int (i_ge (ev_var s25') (ev_var s14')))))
      generalize hx : (if (decide (k - 1 ≤ j) && !decide (j = k)) = true then (1 : Int) else 0) = x1 at el
      generalize hy : (if decide (k ≤ j) = true then (1 : Int) else 0) = x2 at el
      clear hx hy
      obtain ⟨st, hst⟩ : ∃ st : Int, [V.int (k + j), V.int x1, V.int x2][(more / 80 % 8 - 1).toNat]? = some (.int st) := by
        rcases (show more / 80 % 8 = 1 ∨ more / 80 % 8 = 2 ∨ more / 80 % 8 = 3 by omega) with q | q | q <;> rw [q]
        · exact ⟨_, rfl⟩
        · exact ⟨_, rfl⟩
        · exact ⟨_, rfl⟩
      have ep := ev_pick (C := cx defs consts (n + 1)) (σ := σ4) (h := h) el (i_sub et (ev_int 1)) (List.prefix_refl _) (show 3 ≤ 1000000 by decide) (by omega) hst
      refine ⟨upd (upd σ4 56 (.int st)) 37 (.int ((st + more / 640) % 2)), h ++ [O.list [V.int (k + j), V.int x1, V.int x2]], ?_, List.prefix_append _ _, (ag4.upd (by decide)).upd (by decide), _, rfl, by omega, by omega⟩
      rw [ex_iteT ec, exs_next (ex_assign ep), exs_next (ex_assign (i_mod (i_add (ev_var (v := .int st) rfl) (i_div (ev_var (v := .int more) (by exact s19)) (ev_int 640) (by decide))) (ev_int 2) (by decide))), exs_nil]
    · have hb : (decide (0 < more / 80 % 8) && decide (more / 80 % 8 < 4)) = false := by
        by_cases c1 : 0 < more / 80 % 8
        · rw [decide_eq_true c1, decide_eq_false (fun c2 => hc ⟨c1, c2⟩)]; rfl
        · rw [decide_eq_false c1]; rfl
      rw [hb] at ec
      exact ⟨σ4, h, by rw [ex_iteF ec, exs_nil], List.prefix_refl _, ag4, q37⟩
  rw [exs_next e5]
  have s35' : σ5 35 = some (.ref row) := by rw [ag5 35 (by decide)]; exact s35
  have hrow' := pre_get p5 hrow
  exact ⟨σ5, g, h5, by rw [exs_next (ex_expr (ev_append (ev_var s35') hrow' (ev_var q37) hrow' (by unfold big; omega))), exs_nil], p5, ag5, g0, g1⟩
/-- a for that makes a list, one element a turn -/
theorem for_make {α δ : Type} {src : Src} {body : V → Sto → H → RS} {σ : Sto} {hp h : H} {r : Nat} {t : List Nat} {g : δ → PyData} (P : δ → Prop) (ps : List (V × α)) (hst : ∀ h, hp <+: h → src.stands h) (hr : hp.length ≤ r)
    (hb : ∀ q ∈ ps, ∀ σ' h vs, Agr t σ σ' → hp <+: h → h[r]? = some (O.list vs) → vs.length ≤ ps.length → ∃ σ'' v d h1, body q.1 σ' h = .next σ'' (h1.set r (.list (vs ++ [v]))) ∧ h <+: h1 ∧ Agr t σ σ'' ∧ P d ∧ Rd (r + 1) h1.length h1 (g d) v)
    (h0 : hp <+: h) (hr0 : h[r]? = some (O.list [])) :
    ∃ σ' h' vs, ∃ ds : List δ, forR src body (ps.map (·.1)) σ h = .next σ' h' ∧ hp <+: h' ∧ h'[r]? = some (O.list vs) ∧ RdL (r + 1) h'.length h' (ds.map g) vs ∧ Agr t σ σ' ∧ ds.length = ps.length ∧ ∀ d ∈ ds, P d := by
  have key : ∀ (qs : List (V × α)) (done : List δ) (σ0 : Sto) (h : H) (vs : List V), ps.length = done.length + qs.length → (∀ q ∈ qs, q ∈ ps) → (∀ d ∈ done, P d) → Agr t σ σ0 → hp <+: h → h[r]? = some (O.list vs) → RdL (r + 1) h.length h (done.map g) vs →
      ∃ σ' h' vs, ∃ ds : List δ, forR src body (qs.map (·.1)) σ0 h = .next σ' h' ∧ hp <+: h' ∧ h'[r]? = some (O.list vs) ∧ RdL (r + 1) h'.length h' (ds.map g) vs ∧ Agr t σ σ' ∧ ds.length = ps.length ∧ ∀ d ∈ ds, P d := by
    intro qs
    induction qs with
    | nil =>
      intro done σ0 h vs e _ hd ag p hv rl
      exact ⟨σ0, h, vs, done, by rw [List.map_nil, forR, if_pos (hst h p)], p, hv, rl, ag, by simpa using e.symm, hd⟩
    | cons q qs ih =>
      intro done σ0 h vs e hm hd ag p hv rl
      have lv : vs.length ≤ ps.length := by
        have := rl.length; simp only [List.length_map] at this
        rw [e, this]; omega
      obtain ⟨σ2, v, d, h1, e1, p1, ag2, pd, rv⟩ := hb q (hm q (by simp)) σ0 h vs ag p hv lv
      have hv1 := pre_get p1 hv
      have lt1 := (List.getElem?_eq_some_iff.mp hv1).1
      have sm : Same (r + 1) h1.length h1 (h1.set r (O.list (vs ++ [v]))) := Same.set (.inl (by omega))
      obtain ⟨σ3, h3, ws, ds, e3, rest⟩ := ih (done ++ [d]) σ2 (h1.set r (O.list (vs ++ [v]))) (vs ++ [v]) (by rw [e]; simp; omega) (fun q' hq' => hm q' (by simp [hq'])) (fun d' hd' => by
          rcases List.mem_append.mp hd' with hd' | hd'
          · exact hd d' hd'
          · rw [List.mem_singleton] at hd'; rw [hd']; exact pd) ag2 (pre_set (p.trans p1) hr) (by rw [List.getElem?_set_self lt1]) (by
        rw [List.map_append]
        refine RdL.append ?_ ⟨v, [], rfl, ?_, rfl⟩
        · exact RdL.same sm (Nat.le_refl _) (by simp) _ _ (rl.pre p1 (Nat.le_refl _) (Nat.le_refl _) (pre_len p1))
        · exact Rd.same sm (Nat.le_refl _) (by simp) _ _ rv)
      exact ⟨σ3, h3, ws, ds, by rw [List.map_cons, forR, if_pos (hst h p), e1]; exact e3, rest⟩
  exact key ps [] σ h [] (by simp) (fun _ h => h) (fun _ h => by cases h) (Agr.refl _ _) h0 hr0 rfl

theorem pick_int {xs : List Int} {k : Int} (h0 : 0 ≤ k) (h1 : k < xs.length) : ∃ x ∈ xs, (xs.map V.int)[k.toNat]? = some (.int x) := by
  have hk : k.toNat < xs.length := by omega
  exact ⟨xs[k.toNat], List.getElem_mem hk, by rw [List.getElem?_map, List.getElem?_eq_getElem hk]; rfl⟩

theorem f_clothby (n : Nat) {h : H} {xs : List Int} (hx : xs.length ≤ 63) (h0 : h[0]? = some (O.frozen (xs.map V.int))) {at_ : Int} (hat : 0 ≤ at_) :
    ∃ v h' m w, Fn defs consts (n + 3) 25 [.ref 0, .int at_] h = .ok v h' ∧ h <+: h' ∧ IsCl m w ∧ Rd h.length h'.length h' (iLL m) v := by
  rw [fn_at (d := d_cloth_by_l) rfl]
  simp only [runDef, d_cloth_by_l, List.length_cons, List.length_nil, if_true]
  have ec : ∀ {σ : Sto} {x : X} {k : Int}, σ 13 = some (.ref 0) → ev (cx defs consts (n + 2)) x σ h = .ok (.int k) h → 0 ≤ k → ev (cx defs consts (n + 2)) (.call 6 [.var 13, x]) σ h = .ok (.int (cell xs k)) h := fun q e hk =>
    ev_callF (evL_cons (ev_var q) (evL_1 e)) (f_cell (n + 1) hx h0 hk)
  rw [exs_next (ex_assign (ev_callF (evL_1 (ec rfl (ev_var (v := .int at_) rfl) hat)) (f_size (n + 1) _))),
    exs_next (ex_assign (ev_callF (evL_1 (i_div (ec rfl (ev_var (v := .int at_) rfl) hat) (ev_int 320) (by decide))) (f_size (n + 1) _))),
    exs_next (ex_assign (ec rfl (i_add (ev_var (v := .int at_) rfl) (ev_int 1)) (by omega))),
    exs_next (ex_assign (ec rfl (i_add (ev_var (v := .int at_) rfl) (ev_int 2)) (by omega)))]
  have b1 := size_bounds (cell xs at_)
  have b2 := size_bounds (cell xs at_ / 320)
  generalize size (cell xs at_) = we0 at b1 ⊢
  generalize size (cell xs at_ / 320) = wa0 at b2 ⊢
  generalize cell xs (at_ + 1) = seed
  generalize cell xs (at_ + 2) = more
  generalize hσ : upd (upd (upd (upd (updL noSto [13, 18] [V.ref 0, V.int at_]) 21 (V.int we0)) 20 (V.int wa0)) 15 (V.int seed)) 19 (V.int more) = σ0
  have t15 : σ0 15 = some (.int seed) := by rw [← hσ]; rfl
  have t19 : σ0 19 = some (.int more) := by rw [← hσ]; rfl
  have t20 : σ0 20 = some (.int wa0) := by rw [← hσ]; rfl
  have t21 : σ0 21 = some (.int we0) := by rw [← hσ]; rfl
  clear hσ
  -- how many
  obtain ⟨σ1, we, wa, e1, s15, s19, s20, s21, bw, ba⟩ : ∃ σ1 we wa, ex (cx defs consts (n + 2)) (.ite (.bop .Or [(.cmp (.bin .Mod (.bin .FloorDiv (.var 19) (.int 80)) (.int 8)) [.Eq] [(.int 2)]), (.cmp (.bin .Mod (.bin .FloorDiv (.var 19) (.int 80)) (.int 8)) [.Eq] [(.int 3)])]) [.assign 21 (.bin .Add (.int 4) (.bin .Mod (.call 7 [(.var 15), (.int 700)]) (.int 6))), .assign 20 (.var 21)] []) σ0 h = .next σ1 h ∧
      σ1 15 = some (.int seed) ∧ σ1 19 = some (.int more) ∧ σ1 20 = some (.int wa) ∧ σ1 21 = some (.int we) ∧ (1 ≤ we ∧ we ≤ 12) ∧ (1 ≤ wa ∧ wa ≤ 12) := by
    have et : ev (cx defs consts (n + 2)) (.bin .Mod (.bin .FloorDiv (.var 19) (.int 80)) (.int 8)) σ0 h = .ok (.int (more / 80 % 8)) h := i_mod (i_div (ev_var t19) (ev_int 80) (by decide)) (ev_int 8) (by decide)
    have eo := e_or (i_eq et (ev_int 2)) (i_eq et (ev_int 3))
    cases hb : (decide (more / 80 % 8 = 2) || decide (more / 80 % 8 = 3)) with
    | false => rw [hb] at eo; exact ⟨σ0, we0, wa0, by rw [ex_iteF eo, exs_nil], t15, t19, t20, t21, b1, b2⟩
    | true =>
      rw [hb] at eo
      refine ⟨upd (upd σ0 21 (.int (4 + drawn seed 700 % 6))) 20 (.int (4 + drawn seed 700 % 6)), 4 + drawn seed 700 % 6, 4 + drawn seed 700 % 6, ?_, t15, t19, rfl, rfl, by omega, by omega⟩
      rw [ex_iteT eo, exs_next (ex_assign (i_add (ev_int 4) (i_mod (ev_callF (evL_cons (ev_var t15) (evL_1 (ev_int 700))) (f_drawn (n + 1) seed 700)) (ev_int 6) (by decide)))), exs_next (ex_assign (ev_var rfl)), exs_nil]
  rw [exs_next e1]
  clear e1 t15 t19 t20 t21 b1 b2
  -- the floors
  obtain ⟨f, fm, hf⟩ := pick_int (xs := [1, 2, 3, 5]) (k := more % 4) (by omega) (by simp; omega)
  have f0 : 0 < f := by
    simp only [List.mem_cons, List.not_mem_nil, or_false] at fm; omega
  rw [exs_next (ex_assign (ev_pick (evL_cons (ev_int 1) (evL_cons (ev_int 2) (evL_cons (ev_int 3) (evL_1 (ev_int 5))))) (i_mod (ev_var s19) (ev_int 4) (by decide)) (List.prefix_refl _) (show 4 ≤ 1000000 by decide) (by omega) hf))]
  have p1 : h <+: h ++ [O.list [V.int 1, V.int 2, V.int 3, V.int 5]] := List.prefix_append _ _
  generalize h ++ [O.list [V.int 1, V.int 2, V.int 3, V.int 5]] = h1 at p1 ⊢
  -- the kinds down and right
  have kinds : ∀ (σ : Sto) (hh : H) (sd : X) (s : Int) (es : List X) (ks : List Int) (ix : X) (kk : Int) (i lim : Nat) (nn : Int), σ lim = some (.int nn) → 1 ≤ nn ∧ nn ≤ 12 → (∀ v hh', ev (cx defs consts (n + 2)) sd (upd σ i v) hh' = .ok (.int s) hh') →
      (∀ v hh', evL (cx defs consts (n + 2)) es (upd σ i v) hh' = .ok (ks.map V.int) hh') → (∀ v hh', ev (cx defs consts (n + 2)) ix (upd σ i v) hh' = .ok (.int kk) hh') → 0 ≤ kk → kk < ks.length → ks.length ≤ 5 → (∀ x ∈ ks, 0 < x) →
      ∃ (a : Nat) (h' : H) (ds : List Int), ev (cx defs consts (n + 2)) (.comp (.call 24 [sd, (.var i), (.sub (.list es) ix)]) i (.range [(.var lim)]) []) σ hh = .ok (.ref a) h' ∧ hh <+: h' ∧ h'[a]? = some (O.list (ds.map V.int)) ∧ (ds.length : Int) = nn := by
    intro σ hh sd s es ks ix kk i lim nn hl hn hs he hi hk0 hk1 hk5 hpos
    obtain ⟨fw, fwm, hfw⟩ := pick_int hk0 hk1
    have pw := hpos fw fwm
    obtain ⟨v, h', e, p, r⟩ := comp_all (C := cx defs consts (n + 2)) (σ := σ) (h := hh) (elt := (.call 24 [sd, (.var i), (.sub (.list es) ix)])) (i := i) (it := .range [.var lim]) 0 (intPairs (upto nn)) (fun k => .int (kindAt s k fw))
      (evS_range1 (ev_var hl) (by omega) (by omega)) (by rw [intPairs_1]) (by simp [intPairs, upto_len]; unfold big; omega) trivial (Nat.zero_le _) (fun q hq h2 _ => by
        obtain ⟨_, hq⟩ := intPairs_mem hq
        have e1 := ev_callF (evL_cons (hs q.1 h2) (evL_cons (ev_var (i := i) (v := .int q.2) (by rw [← hq]; simp only [upd, if_true])) (evL_1 (ev_pick (he q.1 h2) (hi q.1 _) (List.prefix_refl _) (by rw [List.length_map]; unfold big; omega) hk0 hfw)))) (f_kind n s q.2 fw pw)
        exact ⟨_, _, e1, List.prefix_append _ _, rfl⟩)
    rw [intPairs_2] at r
    obtain ⟨a, rfl, _, _, hr⟩ := row_is (xs := (upto nn).map fun k => kindAt s k fw) (by rw [iL, List.map_map]; exact r)
    exact ⟨a, h', _, e, p, hr, by rw [List.length_map, upto_len]; omega⟩
  have s19' : ∀ {i : Nat} {v : V}, i ≠ 19 → upd (upd σ1 50 (.int f)) i v 19 = some (.int more) := fun hi => by simp only [upd]; rw [if_neg (Ne.symm hi), if_neg (by decide)]; exact s19
  have s15' : ∀ {i : Nat} {v : V}, i ≠ 15 → upd (upd σ1 50 (.int f)) i v 15 = some (.int seed) := fun hi => by simp only [upd]; rw [if_neg (Ne.symm hi), if_neg (by decide)]; exact s15
  obtain ⟨a51, h2, dn, e2, p2, hdn, ldn⟩ := kinds (upd σ1 50 (.int f)) h1 (.var 15) seed [(.int 12), (.int 1), (.int 2), (.int 3), (.int 12)] [12, 1, 2, 3, 12] (.bin .Mod (.bin .FloorDiv (.var 19) (.int 4)) (.int 5)) (more / 4 % 5) 14 21 we (by exact s21) bw
    (fun v hh => ev_var (s15' (by decide))) (fun v hh => evL_cons (ev_int 12) (evL_cons (ev_int 1) (evL_cons (ev_int 2) (evL_cons (ev_int 3) (evL_1 (ev_int 12)))))) (fun v hh => i_mod (i_div (ev_var (s19' (by decide))) (ev_int 4) (by decide)) (ev_int 5) (by decide)) (by omega) (by simp; omega) (by decide) (by simp)
  rw [exs_next (ex_assign e2)]
  obtain ⟨a52, h3, rt, e3, p3, hrt, lrt⟩ := kinds (upd (upd σ1 50 (.int f)) 51 (.ref a51)) h2 (.bin .Add (.var 15) (.int 1)) (seed + 1) [(.int 12), (.int 2), (.int 3), (.int 12)] [12, 2, 3, 12] (.bin .Mod (.bin .FloorDiv (.var 19) (.int 20)) (.int 4)) (more / 20 % 4) 25 20 wa (by exact s20) ba
    (fun v hh => i_add (ev_var (v := .int seed) (by exact s15)) (ev_int 1)) (fun v hh => evL_cons (ev_int 12) (evL_cons (ev_int 2) (evL_cons (ev_int 3) (evL_1 (ev_int 12))))) (fun v hh => i_mod (i_div (ev_var (v := .int more) (by exact s19)) (ev_int 20) (by decide)) (ev_int 4) (by decide)) (by omega) (by simp; omega) (by decide) (by simp)
  rw [exs_next (ex_assign e3)]
  clear e2 e3 kinds
  have hdn3 := pre_get p3 hdn
  -- what is made
  rw [exs_next (ex_assign (v := .ref h3.length) (h' := h3 ++ [O.list []]) (ev_list evL_nil (Nat.zero_le _)))]
  generalize hσ : upd (upd (upd (upd σ1 50 (V.int f)) 51 (V.ref a51)) 52 (V.ref a52)) 53 (V.ref h3.length) = σ2
  have D : Drw σ2 seed more f 0 wa h3.length a51 a52 := by rw [← hσ]; exact ⟨s15, s19, s20, rfl, rfl, rfl, rfl⟩
  have q21 : σ2 21 = some (.int we) := by rw [← hσ]; exact s21
  clear hσ
  have p4 : h3 <+: h3 ++ [O.list []] := List.prefix_append _ _
  obtain ⟨σ3, h4, vs, ds, e4, p5, hv, rv, ag, dl, dP⟩ := for_make (δ := List Int) (src := ⟨(upto we).map V.int, none⟩) (body := fun x σ1 h2 => exs (cx defs consts (n + 2)) [.assign 35 (.list []), .for 25 (.range [(.var 20)]) signBody, .expr (.meth .append (.var 53) [(.var 35)])] (upd σ1 14 x) h2)
    (σ := σ2) (hp := h3) (h := h3 ++ [O.list []]) (r := h3.length) (t := [14, 25, 35, 37, 54, 55, 56]) (g := iL) (fun r => r.length = wa.toNat ∧ ∀ x ∈ r, 0 ≤ x ∧ x ≤ 1) (intPairs (upto we)) (fun _ _ => trivial) (Nat.le_refl _)
    (fun q hq σ' h vs ag p hr lv => by
      obtain ⟨hm, hq⟩ := intPairs_mem hq
      have hm := upto_mem.mp hm
      have D' := D.agr ag
      have pr : h <+: h ++ [O.list []] := List.prefix_append _ _
      have lh := (List.getElem?_eq_some_iff.mp hr).1
      obtain ⟨σ4, h5, ws, es, e5, p6, hw, rw_, ag5, el, eP⟩ := for_make (δ := Int) (src := ⟨(upto wa).map V.int, none⟩) (body := fun x σ1 h2 => exs (cx defs consts (n + 2)) signBody (upd σ1 25 x) h2)
        (σ := upd (upd σ' 14 q.1) 35 (.ref h.length)) (hp := h) (h := h ++ [O.list []]) (r := h.length) (t := [25, 37, 54, 55, 56]) (g := .int) (fun x => 0 ≤ x ∧ x ≤ 1) (intPairs (upto wa)) (fun _ _ => trivial) (Nat.le_refl _)
        (fun u hu σ4 h5 vs5 ag5 p5 hr5 lv5 => by
          obtain ⟨hm5, hu⟩ := intPairs_mem hu
          have hm5 := upto_mem.mp hm5
          have D5 : Drw (upd σ4 25 u.1) seed more f 0 wa h3.length a51 a52 := D'.agr (by
            have : Agr [14, 25, 35, 37, 54, 55, 56] σ' (upd (upd σ' 14 q.1) 35 (.ref h.length)) := ((Agr.refl _ _).upd (by decide)).upd (by decide)
            exact (this.trans (ag5.wide (by decide))).upd (by decide))
          have lu : (intPairs (upto wa)).length = wa.toNat := by simp [intPairs, upto_len]
          obtain ⟨σ6, sg, h6, e6, p6, ag6, sg0, sg1⟩ := sign_turn (n + 1) (k := q.2) (j := u.2) (row := h.length) (dn := dn) (rt := rt) (vs := vs5) (h := h5) D5 (by
              show upd σ4 25 u.1 14 = _
              simp only [upd]; rw [if_neg (by decide), ag5 14 (by decide)]; simp only [upd]; rw [if_neg (by decide)]; simp only [if_true, hq])
            (by simp only [upd, if_true, hu]) (by simp only [upd]; rw [if_neg (by decide), ag5 35 (by decide)]; rfl) f0 (pre_get (p.trans p5) hdn3) (pre_get (p.trans p5) hrt) (by omega) (by omega) (by omega) (by omega) hr5 (by omega)
          exact ⟨σ6, .int sg, sg, h6, e6, p6, (ag5.upd (by decide)).trans (ag6.wide (by decide)), ⟨sg0, sg1⟩, rfl⟩)
        pr (by simp)
      have lu : (intPairs (upto wa)).length = wa.toNat := by simp [intPairs, upto_len]
      rw [intPairs_1] at e5
      have ws_ := RdL.ints_.mp rw_
      subst ws_
      have l5 := pre_len p6
      have lt5 := (List.getElem?_eq_some_iff.mp hw).1
      have s53 : σ4 53 = some (.ref h3.length) := by rw [ag5 53 (by decide)]; exact D'.s53
      have s35 : σ4 35 = some (.ref h.length) := by rw [ag5 35 (by decide)]; rfl
      have hr5 := pre_get p6 hr
      refine ⟨σ4, .ref h.length, es, h5, ?_, p6, ?_, ⟨by rw [el, lu], eP⟩, rd_row (by omega) lt5 hw⟩
      · rw [exs_next (ex_assign (ev_list evL_nil (Nat.zero_le _))), exs_next (ex_for (evS_range1 (ev_var (v := .int wa) (by exact D'.s20)) (by omega) (by omega)) e5), exs_next (ex_expr (ev_append (ev_var s53) hr5 (ev_var s35) hr5 (by have : (intPairs (upto we)).length = we.toNat := by { simp [intPairs, upto_len] }; unfold big; omega))), exs_nil]
      · exact ag.trans ((((Agr.refl _ _).upd (by decide)).upd (by decide)).trans (ag5.wide (by decide))))
    p4 (by simp)
  rw [intPairs_1] at e4
  unfold signBody at e4
  have lu : (intPairs (upto we)).length = we.toNat := by simp [intPairs, upto_len]
  have l4 := pre_len ((p1.trans p2).trans p3)
  have lt4 := (List.getElem?_eq_some_iff.mp hv).1
  refine ⟨.ref h3.length, h4, ds, wa.toNat, ?_, ((p1.trans p2).trans p3).trans p5, ⟨by rw [dl, lu]; omega, by omega, dP⟩, ⟨h3.length, vs, rfl, l4, lt4, hv, RdL.same (Same.refl _ _ _) (by omega) (Nat.le_refl _) _ _ rv⟩⟩
  rw [exs_next (ex_for (evS_range1 (ev_var q21) (by omega) (by omega)) e4), exs_ret (ex_retv (ev_var (v := .ref h3.length) (by rw [ag 53 (by decide)]; exact D.s53)))]
end Mine

set_option autoImplicit false
set_option linter.unusedVariables false
set_option linter.unusedSimpArgs false
set_option maxRecDepth 100000
namespace Mine
open PySem

noncomputable def getI (r : List Int) (k : Int) : Int := (r[k.toNat]?).getD 0
noncomputable def getR (m : List (List Int)) (k : Int) : List Int := (m[k.toNat]?).getD []
theorem getR_mem {m : List (List Int)} {k : Int} (h0 : 0 ≤ k) (h1 : k < m.length) : getR m k ∈ m ∧ m[k.toNat]? = some (getR m k) := by
  have hk : k.toNat < m.length := by omega
  unfold getR
  rw [List.getElem?_eq_getElem hk]
  exact ⟨List.getElem_mem hk, rfl⟩
theorem getI_mem {r : List Int} {k : Int} (h0 : 0 ≤ k) (h1 : k < r.length) : getI r k ∈ r ∧ r[k.toNat]? = some (getI r k) := by
  have hk : k.toNat < r.length := by omega
  unfold getI
  rw [List.getElem?_eq_getElem hk]
  exact ⟨List.getElem_mem hk, rfl⟩
theorem mod_in (k : Int) {n : Nat} (h : 0 < n) : 0 ≤ k % n ∧ k % n < n := ⟨Int.emod_nonneg _ (by omega), Int.emod_lt_of_pos _ (by omega)⟩

/-- what is no whole number -/
noncomputable def Odd (h : H) (v : V) : Prop := kindV h v = some .none ∨ kindV h v = some .bool ∨ kindV h v = some .str ∨ kindV h v = some .list ∨ kindV h v = some .dict
theorem Odd.pre {h h' : H} {v : V} (o : Odd h v) (p : h <+: h') : Odd h' v := by
  have key : ∀ k, kindV h v = some k → kindV h' v = some k := fun k e => by
    cases v with
    | ref a =>
      simp only [kindV] at e ⊢
      cases q : h[a]? with
      | none => rw [q] at e; cases e
      | some o => rw [q] at e; rw [pre_get p q]; exact e
    | _ => exact e
  exact o.imp (key _) fun o => o.imp (key _) fun o => o.imp (key _) fun o => o.imp (key _) (key _)
/-- a comparison of two things that stand for the same -/
theorem same_rd {M N M' N' : Nat} {h : H} {d : PyData} {v w : V} (x : Rd M N h d v) (y : Rd M' N' h d w) (hd : dep d ≤ 6) (cd : d.canLay0 = true) : eqV h v w = some true := by
  rw [eqV_rd x y hd hd cd cd, SeqAt.eqv_refl d cd]
theorem same_cl {M N M' N' : Nat} {h : H} {m : List (List Int)} {v w : V} (x : Rd M N h (iLL m) v) (y : Rd M' N' h (iLL m) w) : eqV h v w = some true :=
  same_rd x y (by have := dep_iLL m; omega) (lay_iLL m)
theorem e_ne {C : Cx} {σ : Sto} {h h1 h2 : H} {x y : X} {u v : V} {t : Bool} (e1 : ev C x σ h = .ok u h1) (e2 : ev C y σ h1 = .ok v h2) (hc : eqV h2 u v = some t) : ev C (.cmp x [.NotEq] [y]) σ h = .ok (.bool (!t)) h2 := ev_cmp e1 e2 (by simp only [cmpV, hc, Option.map_some])
theorem e_eq {C : Cx} {σ : Sto} {h h1 h2 : H} {x y : X} {u v : V} {t : Bool} (e1 : ev C x σ h = .ok u h1) (e2 : ev C y σ h1 = .ok v h2) (hc : eqV h2 u v = some t) : ev C (.cmp x [.Eq] [y]) σ h = .ok (.bool t) h2 := ev_cmp e1 e2 (by simp only [cmpV, hc])

theorem upto_get {n : Int} {i : Nat} (hi : i < (upto n).length) : (upto n)[i] = (i : Int) := by
  unfold upto at hi ⊢
  rw [List.getElem_map, List.getElem_range]
theorem getR_upto {n : Int} {f : Int → List Int} {k : Int} (h0 : 0 ≤ k) (h1 : k < n) : getR ((upto n).map f) k = f k := by
  have hk : k.toNat < (upto n).length := by rw [upto_len]; omega
  unfold getR
  rw [List.getElem?_map, List.getElem?_eq_getElem hk, upto_get]
  show f (k.toNat : Int) = f k
  congr 1; omega
theorem getI_at {r : List Int} {i : Nat} (h : i < r.length) : getI r i = r[i] := by
  unfold getI; rw [Int.toNat_natCast, List.getElem?_eq_getElem h]; rfl
theorem getR_at {m : List (List Int)} {i : Nat} (h : i < m.length) : getR m i = m[i] := by
  unfold getR; rw [Int.toNat_natCast, List.getElem?_eq_getElem h]; rfl

/-- a sign of a cloth -/
theorem ev_at {C : Cx} {σ : Sto} {h : H} {s : Nat} {x y : X} {k j : Int} {v : V} {M N w : Nat} {m : List (List Int)} (hs : σ s = some v) (r : Rd M N h (iLL m) v) (L : IsCl m w) (ex : ev C x σ h = .ok (.int k) h) (ey : ev C y σ h = .ok (.int j) h)
    (hk : 0 ≤ k ∧ k < m.length) (hj : 0 ≤ j ∧ j < w) : ev C (.sub (.sub (.var s) x) y) σ h = .ok (.int (getI (getR m k) j)) h := by
  obtain ⟨a, vs, rfl, _, _, ha, rl, lv⟩ := rows_at r
  obtain ⟨g1, g2⟩ := getR_mem hk.1 hk.2
  obtain ⟨y', hy, ry⟩ := rl.at (i := k.toNat) (d := iL (getR m k)) (by rw [List.getElem?_map, g2]; rfl)
  obtain ⟨b, rfl, _, _, hb⟩ := row_is ry
  have hr := (L.row _ g1).1
  have hl := L.len
  have hw := L.wid
  exact ev_subL (ev_subL (ev_var hs) ex (.inl ha) (by unfold big; omega) hk.1 hy) ey (.inl hb) (by rw [List.length_map]; unfold big; omega) hj.1 (by rw [List.getElem?_map, (getI_mem hj.1 (by omega)).2]; rfl)

theorem fnB_at {D : List Def} {K : List V} {n i : Nat} {b : Bool} {d : Def} (e : D[i]? = some d) (a : List V) (h : H) : FnB D K (n + 1) b i a h = runDef (cxB D K b n) d a h := by
  rw [FnB]; simp only [e]; rfl

/-- what the laws call an error -/
noncomputable def nameE (c : Nat) : Str := if c = 1 then "loom " else if c = 2 then "cloth " else if c = 3 then "thread " else if c = 4 then "count " else "text "
theorem f_nameOf (n : Nat) {h : H} {a c : Nat} (hc : c = 3 ∨ c = 4 ∨ c = 1) (ha : h[a]? = some (O.exc c)) : ∃ h', FnB defs consts (n + 1) false 35 [.ref a] h = .ok (.str (nameE c)) h' ∧ h <+: h' := by
  rw [fnB_at (d := d_name_of_l) rfl]
  have isi : ∀ {σ : Sto} {h : H} (t : Ty) (b : Bool), σ 73 = some (.ref a) → h[a]? = some (O.exc c) → subE t c = some b → ev (cxB defs consts false n) (.isi (.var 73) t) σ h = .ok (.bool b) h := fun t b q1 q2 q3 => by
    rw [ev, ev_var q1]; simp only [R.bind, kindV, q2, isiK, q3]
  have part : ∀ {σ : Sto} {h : H} (s : Str) (t : Ty) (b : Bool), σ 73 = some (.ref a) → h[a]? = some (O.exc c) → subE t c = some b → ev (cxB defs consts false n) (.bin .Mult (.str s) (.bi .int [(.isi (.var 73) t)])) σ h = .ok (.str (if b then s else Str.empty)) h := fun s t b q1 q2 q3 =>
    ev_bin (u := .str s) (by rw [ev]) (i_int (isi t b q1 q2 q3)) (by cases b <;> simp [binV, strMul])
  have add : ∀ {σ : Sto} {h : H} {x y : X} {s t : Str} (u : Str), ev (cxB defs consts false n) x σ h = .ok (.str s) h → ev (cxB defs consts false n) y σ h = .ok (.str t) h → strAdd .Add s t h = .ok (.str u) h → ev (cxB defs consts false n) (.bin .Add x y) σ h = .ok (.str u) h := fun u e1 e2 e3 =>
    ev_bin e1 e2 e3
  simp only [runDef, d_name_of_l, List.length_cons, List.length_nil, if_true]
  have fin : ∀ {σ : Sto} (s : Str), σ 73 = some (.ref a) → σ 28 = some (.str s) → exs (cxB defs consts false n) [.ret (.sub (.list [(.var 28), (.str "bare")]) (.bi .int [(.not (.isi (.var 73) .valueError))]))] σ h = .ret (.str s) (h ++ [O.list [.str s, .str "bare"]]) := fun s q1 q2 => by
    rw [exs_ret (ex_retv (ev_pick (evL_cons (ev_var q2) (evL_1 (by rw [ev]))) (i_int (ev_not (isi .valueError true q1 (pre_get (List.prefix_append _ _) ha) rfl))) (List.prefix_refl _) (show 2 ≤ 1000000 by decide) (by decide) rfl))]
  refine ⟨h ++ [O.list [.str (nameE c), .str "bare"]], ?_, List.prefix_append _ _⟩
  rcases hc with rfl | rfl | rfl
  · rw [exs_next (ex_assign (add "thread " (part "cloth " (.exc 2) false rfl ha rfl) (part "thread " (.exc 3) true rfl ha rfl) rfl)),
      exs_next (ex_assign (add "thread " (add "thread " (ev_var (v := .str "thread ") rfl) (part "count " (.exc 4) false rfl ha rfl) rfl) (part "loom " (.exc 1) false rfl ha rfl) rfl)),
      exs_next (ex_assign (add "thread " (ev_var (v := .str "thread ") rfl) (part "text " (.exc 5) false rfl ha rfl) rfl)), fin "thread " rfl rfl]; rfl
  · rw [exs_next (ex_assign (add Str.empty (part "cloth " (.exc 2) false rfl ha rfl) (part "thread " (.exc 3) false rfl ha rfl) rfl)),
      exs_next (ex_assign (add "count " (add "count " (ev_var (v := .str Str.empty) rfl) (part "count " (.exc 4) true rfl ha rfl) rfl) (part "loom " (.exc 1) false rfl ha rfl) rfl)),
      exs_next (ex_assign (add "count " (ev_var (v := .str "count ") rfl) (part "text " (.exc 5) false rfl ha rfl) rfl)), fin "count " rfl rfl]; rfl
  · rw [exs_next (ex_assign (add Str.empty (part "cloth " (.exc 2) false rfl ha rfl) (part "thread " (.exc 3) false rfl ha rfl) rfl)),
      exs_next (ex_assign (add "loom " (add Str.empty (ev_var (v := .str Str.empty) rfl) (part "count " (.exc 4) false rfl ha rfl) rfl) (part "loom " (.exc 1) true rfl ha rfl) rfl)),
      exs_next (ex_assign (add "loom " (ev_var (v := .str "loom ") rfl) (part "text " (.exc 5) false rfl ha rfl) rfl)), fin "loom " rfl rfl]; rfl

/-- a try whose body raises -/
theorem ex_try {n c v : Nat} {σ σ1 : Sto} {h h1 h2 : H} {body : List S} {hd : X} {x : V} (eb : exs (cx defs consts n) body σ h = .exc c σ1 h1) (eh : ev (cx defs consts n).loose hd (upd σ1 v (.ref h1.length)) (h1 ++ [.exc c]) = .ok x h2) :
    ex (cx defs consts n) (.try body 0 v hd) σ h = .ret x h2 := by
  rw [ex, eb]
  simp only [cx_calm, eh]
  rw [if_pos ⟨trivial, by simp⟩]
end Mine

set_option autoImplicit false
set_option linter.unusedVariables false
set_option linter.unusedSimpArgs false
set_option maxRecDepth 100000
namespace Mine
open PySem

theorem tiny_lo {n : Nat} : (-1000000 : Int) < n := by omega
theorem tiny_hi {n : Nat} (h : n ≤ 1000) : (n : Int) < 1000000 := by omega
theorem big_hi {n : Nat} (h : n ≤ 1000) : n ≤ big := by unfold big; omega
theorem pairs_big {n : Nat} (h : n ≤ 1000) : (intPairs (upto (n : Int))).length ≤ big := by
  rw [intPairs, List.length_map, upto_len]; exact big_hi h
theorem evS_rangeN {C : Cx} {σ : Sto} {h h1 : H} {x : X} {n : Nat} (e : ev C x σ h = .ok (.int n) h1) (hn : n ≤ 1000) : evS C (.range [x]) σ h = .ok ⟨(upto n).map V.int, none⟩ h1 := evS_range1 e tiny_lo (tiny_hi hn)
theorem to12 {n : Nat} (h : n ≤ 12) : n ≤ 1000 := Nat.le_trans h (by decide)
/-- one of few, by a remainder -/
theorem rem_cases {n : Nat} (h : 0 < n) (c : Int) : ∃ k : Nat, k < n ∧ c % n = k := by
  have := mod_in c h
  exact ⟨(c % n).toNat, by omega, by omega⟩

section
variable {h : H} {v : V} {M N w : Nat} {m : List (List Int)}
theorem cl_len {C : Cx} {σ : Sto} {s : Nat} (hs : σ s = some v) (r : Rd M N h (iLL m) v) (L : IsCl m w) (hc : C.calm = true := by rfl) : ev C (.bi .len [(.var s)]) σ h = .ok (.int m.length) h := by
  obtain ⟨a, vs, rfl, _, _, ha, rl, lv⟩ := rows_at r
  have hl := L.len
  rw [ev_len (ev_var hs) (.inl ha) (by unfold big; omega) hc, lv]
theorem cl_wid {C : Cx} {σ : Sto} {s : Nat} (hs : σ s = some v) (r : Rd M N h (iLL m) v) (L : IsCl m w) (hc : C.calm = true := by rfl) : ev C (.bi .len [(.sub (.var s) (.int 0))]) σ h = .ok (.int w) h := by
  obtain ⟨a, vs, rfl, _, _, ha, rl, lv⟩ := rows_at r
  have hl := L.len
  have hw := L.wid
  have hz : 0 < m.length := by omega
  obtain ⟨w0, hw0, rw0⟩ := rl.at (i := 0) (d := iL m[0]) (by rw [List.getElem?_map, List.getElem?_eq_getElem hz]; rfl)
  obtain ⟨b0, rfl, _, _, hb0⟩ := row_is rw0
  have lb0 : (m[0].map V.int).length = w := by rw [List.length_map]; exact (L.row _ (List.getElem_mem hz)).1
  rw [ev_len (ev_subL (ev_var hs) (ev_int 0) (.inl ha) (by unfold big; omega) (Int.le_refl 0) hw0) (.inl hb0) (by rw [lb0]; unfold big; omega) hc, lb0]
theorem f_many (n : Nat) (r : Rd M N h (iLL m) v) (L : IsCl m w) : Fn defs consts (n + 1) 16 [v] h = .ok (.int (m.length + w)) h := by
  rw [fn_at (d := d_many_of) rfl]
  simp only [runDef, d_many_of, List.length_cons, List.length_nil, if_true]
  rw [exs_ret (ex_retv (i_add (cl_len (v := v) rfl r L) (cl_wid (v := v) rfl r L)))]
theorem f_weft (n : Nat) (t : Int) (r : Rd M N h (iLL m) v) (L : IsCl m w) : Fn defs consts (n + 1) 18 [v, .int t] h = .ok (.bool (decide (t < m.length))) h := by
  rw [fn_at (d := d_is_weft) rfl]
  simp only [runDef, d_is_weft, List.length_cons, List.length_nil, if_true]
  rw [exs_ret (ex_retv (i_lt (ev_var (i := 40) (v := .int t) rfl) (cl_len (v := v) rfl r L)))]
theorem f_amongOdd (n : Nat) {x lo hi : V} (o : Odd h x) : Fn defs consts (n + 1) 0 [x, lo, hi] h = .ok (.bool false) h := by
  rw [fn_at (d := d_is_among) rfl]
  rcases o with o | o | o | o | o <;> simp [runDef, d_is_among, exs, ex, ev, evL, evB, evC, R.bind, R.ofOpt, updL, upd, o, isiK, tyNo, kdNo, truthV]
theorem ev_lrange1 {C : Cx} {σ : Sto} {x : X} {k : Int} (e : ev C x σ h = .ok (.int k) h) (h1 : -1000000 < k) (h2 : k < 1000000) (hc : C.calm = true := by rfl) : ev C (.lrange [x]) σ h = .ok (.ref h.length) (h ++ [.list ((upto k).map V.int)]) := by
  rw [ev, evL_1 e]; simp only [R.bind, range1 h1 h2, hc, if_true, Mine.alloc]
theorem ev_lrange2 {C : Cx} {σ : Sto} {x y : X} {j k : Int} (e : ev C x σ h = .ok (.int j) h) (e' : ev C y σ h = .ok (.int k) h) (g1 : -1000000 < j) (g2 : j < 1000000) (g3 : -1000000 < k) (g4 : k < 1000000) (hc : C.calm = true := by rfl) : ev C (.lrange [x, y]) σ h = .ok (.ref h.length) (h ++ [.list ((fromTo j k).map V.int)]) := by
  rw [ev, evL_cons e (evL_1 e')]; simp only [R.bind, range2 g1 g2 g3 g4, hc, if_true, Mine.alloc]
end

theorem exs_exc {C : Cx} {s : S} {ss : List S} {σ σ1 : Sto} {h h1 : H} {c : Nat} (e : ex C s σ h = .exc c σ1 h1) : exs C (s :: ss) σ h = .exc c σ1 h1 := by rw [exs, e]
theorem ex_exprX {C : Cx} {x : X} {σ : Sto} {h h1 : H} {c : Nat} (e : ev C x σ h = .exc c h1) : ex C (.expr x) σ h = .exc c σ h1 := by rw [ex, e]
theorem ex_retX {C : Cx} {x : X} {σ : Sto} {h h1 : H} {c : Nat} (e : ev C x σ h = .exc c h1) : ex C (.ret x) σ h = .exc c σ h1 := by rw [ex, e]
theorem ex_raise {n c : Nat} {σ : Sto} {h : H} : exs (cx defs consts n) [.raise c] σ h = .exc c σ h := by rw [exs, ex, if_pos (cx_calm _ _ _)]
theorem evL_X1 {C : Cx} {x : X} {xs : List X} {σ : Sto} {h h1 : H} {c : Nat} (e : ev C x σ h = .exc c h1) : evL C (x :: xs) σ h = .exc c h1 := by rw [evL, e]; rfl
theorem ev_listX {C : Cx} {es : List X} {σ : Sto} {h h1 : H} {c : Nat} (e : evL C es σ h = .exc c h1) : ev C (.list es) σ h = .exc c h1 := by rw [ev, e]; rfl
theorem i_neg {C : Cx} {σ : Sto} {h h1 : H} {x : X} {a : Int} (e : ev C x σ h = .ok (.int a) h1) : ev C (.neg x) σ h = .ok (.int (-a)) h1 := by rw [ev, e]; rfl
theorem i_pow {C : Cx} {σ : Sto} {h h1 h2 : H} {x y : X} {b : Int} (e : ev C x σ h = .ok (.int 10) h1) (e2 : ev C y σ h1 = .ok (.int b) h2) (hb : 2 ≤ b ∧ b ≤ 30) : ev C (.bin .Pow x y) σ h = .ok (.int (10 ^ b.toNat)) h2 := ev_bin e e2 (by simp only [binV, intOp]; rw [if_pos ⟨trivial, hb⟩])
/-- a slice of a list of numbers: some of them -/
theorem pick_some {ks : List Int} {lo hi st : Option Int} : ∃ js : List Int, pickV (ks.map V.int) lo hi st = js.map V.int ∧ ∀ j ∈ js, j ∈ ks := by
  unfold pickV
  generalize sliceRange _ _ _ = is
  induction is with
  | nil => exact ⟨[], rfl, by simp⟩
  | cons i is ih =>
    obtain ⟨js, e, hm⟩ := ih
    rw [List.filterMap_cons, e, List.getElem?_map]
    cases q : ks[i]? with
    | none => exact ⟨js, rfl, hm⟩
    | some k => exact ⟨k :: js, rfl, fun j hj => by
        rcases List.mem_cons.mp hj with rfl | hj
        · exact List.mem_of_getElem? q
        · exact hm j hj⟩
/-- each s-th of a list of numbers, from k on -/
theorem ev_slice {C : Cx} {σ : Sto} {h : H} {s a : Nat} {ks : List Int} {x y : X} {k j : Int} (hs : σ s = some (.ref a)) (ha : h[a]? = some (O.list (ks.map V.int))) (hb : ks.length ≤ big) (ex : ev C x σ h = .ok (.int k) h) (ey : ev C y σ h = .ok (.int j) h) (hj : j ≠ 0) :
    ∃ js : List Int, ev C (.slice s x .none y) σ h = .ok (.ref h.length) (h ++ [.list (js.map V.int)]) ∧ ∀ j ∈ js, j ∈ ks := by
  obtain ⟨js, e, hm⟩ := pick_some (ks := ks) (lo := some k) (hi := none) (st := some j)
  refine ⟨js, ?_, hm⟩
  have hl : listAt h (.ref a) = some (ks.map V.int) := by simp only [listAt, ha]
  have en : ev C .none σ h = .ok .none h := by rw [ev]
  rw [ev]
  simp only [R.ofOpt, hs, R.bind, ex, en, ey, sliceV, hl, partV]
  rw [if_pos ⟨by simpa using hj, by rw [List.length_map]; exact hb⟩, Mine.alloc, e]
theorem upto_split (a b : Nat) : upto ((a : Int) + b) = upto a ++ fromTo a ((a : Int) + b) := by
  unfold upto fromTo
  rw [show ((a : Int) + b).toNat = a + b by omega, show ((a : Int)).toNat = a by omega, show ((a : Int) + b - a).toNat = b by omega, List.range_add, List.map_append, List.map_map]
  rfl
theorem eqV_bool (h : H) (a b : Bool) : eqV h (.bool a) (.bool b) = some (a == b) := by
  cases a <;> cases b <;> simp [eqV, rd, PyData.canLay0, PyData.eqv]
theorem told_bad (n d : Nat) {σ : Sto} {h h1 : H} {e : X} (eb : ev (cx defs consts (n + 1)) e σ h = .exc 3 h1) : ∃ h', exs (cx defs consts (n + 1)) [.try [.ret e] 0 73 (.call 35 [(.var 73)])] σ h = .ret (.str "thread ") h' ∧ h1 <+: h' := by
  have p2 : h1 <+: h1 ++ [O.exc 3] := List.prefix_append _ _
  obtain ⟨h2, e2, p3⟩ := f_nameOf n (h := h1 ++ [O.exc 3]) (a := h1.length) (.inl rfl) (by simp)
  have eh : ev (cx defs consts (n + 1)).loose (.call 35 [(.var 73)]) (upd σ 73 (.ref h1.length)) (h1 ++ [O.exc 3]) = .ok (.str "thread ") h2 := ev_call (evL_1 (ev_var rfl)) e2
  exact ⟨h2, by rw [exs_ret (ex_try (exs_exc (ex_retX eb)) eh)], p2.trans p3⟩
theorem exs_cat {C : Cx} {ss ts : List S} {σ σ1 : Sto} {h h1 : H} (e : exs C ss σ h = .next σ1 h1) : exs C (ss ++ ts) σ h = exs C ts σ1 h1 := by
  induction ss generalizing σ h with
  | nil => rw [exs_nil] at e; cases e; rfl
  | cons s ss ih =>
    rw [List.cons_append, exs]
    rw [exs] at e
    cases q : ex C s σ h <;> rw [q] at e <;> simp only at e ⊢ <;> first | exact ih e | cases e
theorem exs_two {C : Cx} {a b : S} {ts : List S} {σ σ1 : Sto} {h h1 : H} (e : exs C [a, b] σ h = .next σ1 h1) : exs C (a :: b :: ts) σ h = exs C ts σ1 h1 := exs_cat e
end Mine

set_option autoImplicit false
set_option linter.unusedVariables false
set_option linter.unusedSimpArgs false
set_option maxRecDepth 100000
namespace Mine
open PySem

/-! threads of a cloth -/
section
variable {h : H} {v : V} {M N w : Nat} {m : List (List Int)}
/-- two threads that cross -/
noncomputable def Cross (m : List (List Int)) (w : Nat) (a b : Int) : Prop := (0 ≤ a ∧ a < m.length ∧ m.length ≤ b ∧ b < m.length + w) ∨ (0 ≤ b ∧ b < m.length ∧ m.length ≤ a ∧ a < m.length + w)
noncomputable def lies (m : List (List Int)) (a b : Int) : Bool := if a < m.length then decide (getI (getR m a) (b - m.length) = 0) else decide (getI (getR m b) (a - m.length) = 1)
theorem f_lies (n : Nat) {a b : Int} (r : Rd M N h (iLL m) v) (L : IsCl m w) (hc : Cross m w a b) : Fn defs consts (n + 2) 19 [v, .int a, .int b] h = .ok (.bool (lies m a b)) h := by
  rw [fn_at (d := d_lies_over) rfl]
  simp only [runDef, d_lies_over, List.length_cons, List.length_nil, if_true]
  have et := ev_callF (n := n + 1) (σ := updL noSto [39, 4, 41] [v, .int a, .int b]) (evL_cons (ev_var (i := 39) (v := v) rfl) (evL_1 (ev_var (i := 4) (v := .int a) rfl))) (f_weft n a r L)
  rcases hc with hc | hc
  · rw [decide_eq_true hc.2.1] at et
    rw [exs_ret (v := .bool (lies m a b)) (h' := h)]
    rw [ex_iteT et, exs_ret (ex_retv (i_eq (ev_at (s := 39) (v := v) rfl r L (ev_var (i := 4) (v := .int a) rfl) (i_sub (ev_var (i := 41) (v := .int b) rfl) (cl_len (v := v) rfl r L)) (by omega) (by omega)) (ev_int 0)))]
    rw [lies, if_pos hc.2.1]
  · have hn : ¬ a < m.length := by omega
    rw [decide_eq_false hn] at et
    rw [exs_next (σ' := updL noSto [39, 4, 41] [v, .int a, .int b]) (h' := h) (by rw [ex_iteF et, exs_nil]),
      exs_ret (ex_retv (i_eq (ev_at (s := 39) (v := v) rfl r L (ev_var (i := 41) (v := .int b) rfl) (i_sub (ev_var (i := 4) (v := .int a) rfl) (cl_len (v := v) rfl r L)) (by omega) (by omega)) (ev_int 1)))]
    rw [lies, if_neg hn]
/-- the threads that cross a thread -/
noncomputable def crossers (m : List (List Int)) (w : Nat) (t : Int) : List Int := if t < m.length then fromTo m.length (m.length + w) else upto m.length
theorem f_crossing (n : Nat) (t : Int) (r : Rd M N h (iLL m) v) (L : IsCl m w) : Fn defs consts (n + 2) 20 [v, .int t] h = .ok (.ref h.length) (h ++ [.list ((crossers m w t).map V.int)]) := by
  rw [fn_at (d := d_crossing) rfl]
  simp only [runDef, d_crossing, List.length_cons, List.length_nil, if_true]
  have hl := L.len
  have hw := L.wid
  have et := ev_callF (n := n + 1) (σ := updL noSto [39, 40] [v, .int t]) (evL_cons (ev_var (i := 39) (v := v) rfl) (evL_1 (ev_var (i := 40) (v := .int t) rfl))) (f_weft n t r L)
  unfold crossers
  by_cases hc : t < m.length
  · rw [decide_eq_true hc] at et
    rw [if_pos hc, exs_ret (v := .ref h.length) (h' := h ++ [.list ((fromTo m.length (m.length + w)).map V.int)])]
    rw [ex_iteT et, exs_ret (ex_retv (ev_lrange2 (cl_len (v := v) rfl r L) (ev_callF (evL_1 (ev_var (i := 39) (v := v) rfl)) (f_many n r L)) (by omega) (by omega) (by omega) (by omega)))]
  · rw [decide_eq_false hc] at et
    rw [if_neg hc, exs_next (σ' := updL noSto [39, 40] [v, .int t]) (h' := h) (by rw [ex_iteF et, exs_nil]), exs_ret (ex_retv (ev_lrange1 (cl_len (v := v) rfl r L) (by omega) (by omega)))]
/-- a thread, or what is none -/
noncomputable def Thr (m : List (List Int)) (w : Nat) (v : V) : Prop := ∃ i : Int, v = .int i ∧ 0 ≤ i ∧ i < m.length + w
noncomputable def Bad (m : List (List Int)) (w : Nat) (h : H) (v : V) : Prop := (∃ i : Int, v = .int i ∧ ¬ (0 ≤ i ∧ i < m.length + w)) ∨ Odd h v
theorem Bad.pre {h' : H} {x : V} (o : Bad m w h x) (p : h <+: h') : Bad m w h' x := o.imp id fun o => o.pre p
theorem f_needThr (n : Nat) {t : Int} (r : Rd M N h (iLL m) v) (L : IsCl m w) (ht : 0 ≤ t ∧ t < m.length + w) : Fn defs consts (n + 2) 17 [v, .int t] h = .ok .none h := by
  rw [fn_at (d := d_need_thread) rfl]
  simp only [runDef, d_need_thread, List.length_cons, List.length_nil, if_true]
  have et := ev_callF (n := n + 1) (σ := updL noSto [39, 0] [v, .int t]) (evL_cons (ev_var (i := 0) (v := .int t) rfl) (evL_cons (ev_int 0) (evL_1 (i_sub (ev_callF (evL_1 (ev_var (i := 39) (v := v) rfl)) (f_many n r L)) (ev_int 1))))) (f_among n t 0 _)
  rw [decide_eq_true (by omega)] at et
  rw [exs_next (σ' := updL noSto [39, 0] [v, .int t]) (h' := h) (by rw [ex_iteF (ev_not (b := true) et), exs_nil]), exs_nil]
theorem f_needBad (n : Nat) {x : V} (r : Rd M N h (iLL m) v) (L : IsCl m w) (hb : Bad m w h x) : Fn defs consts (n + 2) 17 [v, x] h = .exc 3 h := by
  rw [fn_at (d := d_need_thread) rfl]
  simp only [runDef, d_need_thread, List.length_cons, List.length_nil, if_true]
  have et : ev (cx defs consts (n + 1)) (.call 0 [(.var 0), (.int 0), (.bin .Sub (.call 16 [(.var 39)]) (.int 1))]) (updL noSto [39, 0] [v, x]) h = .ok (.bool false) h := by
    rcases hb with ⟨i, rfl, hi⟩ | o
    · refine (ev_callF (n := n + 1) (σ := updL noSto [39, 0] [v, .int i]) (evL_cons (ev_var (i := 0) (v := .int i) rfl) (evL_cons (ev_int 0) (evL_1 (i_sub (ev_callF (evL_1 (ev_var (i := 39) (v := v) rfl)) (f_many n r L)) (ev_int 1))))) (f_among n i 0 _)).trans ?_
      rw [decide_eq_false (by omega)]
    · exact ev_callF (n := n + 1) (σ := updL noSto [39, 0] [v, x]) (evL_cons (ev_var (i := 0) (v := x) rfl) (evL_cons (ev_int 0) (evL_1 (i_sub (ev_callF (evL_1 (ev_var (i := 39) (v := v) rfl)) (f_many n r L)) (ev_int 1))))) (f_amongOdd n o)
  have er : ex (cx defs consts (n + 1)) (.ite (.not (.call 0 [(.var 0), (.int 0), (.bin .Sub (.call 16 [(.var 39)]) (.int 1))])) [.raise 3] []) (updL noSto [39, 0] [v, x]) h = .exc 3 (updL noSto [39, 0] [v, x]) h := by
    rw [ex_iteT (ev_not (b := false) et), exs, ex, if_pos (cx_calm _ _ _)]
  rw [exs, er]
end
end Mine

set_option autoImplicit false
set_option linter.unusedVariables false
set_option linter.unusedSimpArgs false
set_option maxRecDepth 100000
namespace Mine
open PySem

/-- what is no thread, by a cell -/
theorem ev_bad {n w : Nat} {m : List (List Int)} {σ : Sto} {h : H} {c : Int} (s74 : σ 74 = some (.int (m.length + w))) (s17 : σ 17 = some (.int c)) :
    ∃ v h', ev (cx defs consts n) (.sub (.list [(.var 74), (.neg (.int 1)), (.bin .Add (.var 74) (.bin .Mod (.bin .FloorDiv (.var 17) (.int 9)) (.bin .Pow (.int 10) (.int 9)))), (.bin .Sub (.neg (.int 2)) (.bin .Mod (.bin .FloorDiv (.var 17) (.int 9)) (.bin .Pow (.int 10) (.int 9)))), (.bool true), .none, (.str "0"), (.list [(.int 0)]), (.bool false)]) (.bin .Mod (.var 17) (.int 9))) σ h = .ok v h' ∧ h <+: h' ∧ Bad m w h' v := by
  have p1 : h <+: h ++ [O.list [.int 0]] := List.prefix_append _ _
  have ed : ∀ {h : H}, ev (cx defs consts n) (.bin .Mod (.bin .FloorDiv (.var 17) (.int 9)) (.bin .Pow (.int 10) (.int 9))) σ h = .ok (.int (c / 9 % (10 ^ 9))) h := i_mod (i_div (ev_var s17) (ev_int 9) (by decide)) (i_pow (ev_int 10) (ev_int 9) (by decide)) (by decide)
  have el : evL (cx defs consts n) [(.var 74), (.neg (.int 1)), (.bin .Add (.var 74) (.bin .Mod (.bin .FloorDiv (.var 17) (.int 9)) (.bin .Pow (.int 10) (.int 9)))), (.bin .Sub (.neg (.int 2)) (.bin .Mod (.bin .FloorDiv (.var 17) (.int 9)) (.bin .Pow (.int 10) (.int 9)))), (.bool true), .none, (.str "0"), (.list [(.int 0)]), (.bool false)] σ h
      = .ok [.int (m.length + w), .int (-1), .int (m.length + w + c / 9 % (10 ^ 9)), .int (-2 - c / 9 % (10 ^ 9)), .bool true, .none, .str "0", .ref h.length, .bool false] (h ++ [O.list [.int 0]]) :=
    evL_cons (ev_var s74) (evL_cons (i_neg (ev_int 1)) (evL_cons (i_add (ev_var s74) ed) (evL_cons (i_sub (i_neg (ev_int 2)) ed) (evL_cons (by rw [ev]) (evL_cons (by rw [ev]) (evL_cons (by rw [ev]) (evL_cons (ev_list (evL_1 (ev_int 0)) (show 1 ≤ 1000000 by decide)) (evL_1 (by rw [ev])))))))))
  have k1 : (h ++ [O.list [V.int 0]])[h.length]? = some (O.list [.int 0]) := by simp
  generalize h ++ [O.list [V.int 0]] = h3 at *
  have hm := mod_in (c / 9) (n := 10 ^ 9) (by decide)
  obtain ⟨v, hv, ho⟩ : ∃ v, [V.int (m.length + w), .int (-1), .int (m.length + w + c / 9 % (10 ^ 9)), .int (-2 - c / 9 % (10 ^ 9)), .bool true, .none, .str "0", .ref h.length, .bool false][(c % 9).toNat]? = some v ∧ Bad m w h3 v := by
    obtain ⟨k, hk, q⟩ := rem_cases (n := 9) (by decide) c
    have q : c % 9 = k := q
    rw [q]
    rcases k with _ | _ | _ | _ | _ | _ | _ | _ | _ | k
    · exact ⟨_, rfl, .inl ⟨_, rfl, by omega⟩⟩
    · exact ⟨_, rfl, .inl ⟨_, rfl, by omega⟩⟩
    · exact ⟨_, rfl, .inl ⟨_, rfl, by omega⟩⟩
    · exact ⟨_, rfl, .inl ⟨_, rfl, by omega⟩⟩
    · exact ⟨_, rfl, .inr (.inr (.inl rfl))⟩
    · exact ⟨_, rfl, .inr (.inl rfl)⟩
    · exact ⟨_, rfl, .inr (.inr (.inr (.inl rfl)))⟩
    · exact ⟨_, rfl, .inr (.inr (.inr (.inr (.inl (by simp only [kindV, k1])))))⟩
    · exact ⟨_, rfl, .inr (.inr (.inl rfl))⟩
    · omega
  have p3 : h3 <+: h3 ++ [O.list [V.int (m.length + w), .int (-1), .int (m.length + w + c / 9 % (10 ^ 9)), .int (-2 - c / 9 % (10 ^ 9)), .bool true, .none, .str "0", .ref h.length, .bool false]] := List.prefix_append _ _
  exact ⟨v, _, ev_pick el (i_mod (ev_var s17) (ev_int 9) (by decide)) (List.prefix_refl _) (show 9 ≤ 1000000 by decide) (Int.emod_nonneg _ (by decide)) hv, p1.trans p3, ho.pre p3⟩
/-- the threads of the other way -/
theorem crossers_eq (m : List (List Int)) (w : Nat) (t : Int) : (upto ((m.length : Int) + w)).filter (fun o : Int => decide (¬ (t < m.length ↔ o < m.length))) = crossers m w t := by
  rw [upto_split, List.filter_append]
  unfold crossers
  by_cases ht : t < m.length
  · rw [if_pos ht, List.filter_eq_nil_iff.mpr (fun o ho => by have := upto_mem.mp ho; simp [ht, this.2]), List.filter_eq_self.mpr (fun o ho => by have := fromTo_mem.mp ho; simp [ht]; omega), List.nil_append]
  · rw [if_neg ht, List.filter_eq_self.mpr (fun o ho => by have := upto_mem.mp ho; simp [ht, this.2]), List.filter_eq_nil_iff.mpr (fun o ho => by have := fromTo_mem.mp ho; simp [ht]; omega), List.append_nil]
end Mine

set_option autoImplicit false
set_option linter.unusedVariables false
set_option linter.unusedSimpArgs false
set_option maxRecDepth 100000
namespace Mine
open PySem

/-! equal rows -/
theorem eqvAll_int : ∀ xs ys : List Int, PyData.eqvAll (xs.map .int) (ys.map .int) = decide (xs = ys)
  | [], [] => rfl
  | [], _ :: _ => rfl
  | _ :: _, [] => rfl
  | x :: xs, y :: ys => by
    rw [List.map_cons, List.map_cons, PyData.eqvAll, eqvAll_int xs ys, PyData.eqv]
    by_cases e : x = y
    · by_cases e2 : xs = ys
      · simp [e, e2]
      · simp [e, e2]
    · simp [e]
theorem eqv_iL (xs ys : List Int) : (iL xs).eqv (iL ys) = decide (xs = ys) := by rw [iL, iL, PyData.eqv, eqvAll_int]
theorem any_row (r : List Int) : ∀ fs : List (List Int), ((fs.map iL).any fun y => PyData.eqv y (iL r)) = decide (r ∈ fs)
  | [] => by simp
  | f :: fs => by
    simp only [List.map_cons, List.any_cons, any_row r fs, eqv_iL, List.mem_cons]
    by_cases e : r = f
    · simp [e]
    · have : ¬ f = r := fun q => e q.symm
      simp [this, e]
/-- the place of a row among others -/
noncomputable def rowAt (r : List Int) : List (List Int) → Nat
  | [] => 0
  | f :: fs => if f = r then 0 else rowAt r fs + 1
theorem find_row (r : List Int) : ∀ fs : List (List Int), r ∈ fs → (fs.map iL).findIdx? (fun y => PyData.eqv y (iL r)) = some (rowAt r fs)
  | [], h => by cases h
  | f :: fs, h => by
    rw [List.map_cons, List.findIdx?_cons, eqv_iL, rowAt]
    by_cases e : f = r
    · simp [e]
    · have h' : r ∈ fs := by
        rcases List.mem_cons.mp h with h | h
        · exact absurd h.symm e
        · exact h
      rw [find_row r fs h']
      simp [e]
theorem rowAt_get (r : List Int) : ∀ fs : List (List Int), r ∈ fs → fs[rowAt r fs]? = some r
  | [], h => by cases h
  | f :: fs, h => by
    rw [rowAt]
    by_cases e : f = r
    · simp [e]
    · have h' : r ∈ fs := by
        rcases List.mem_cons.mp h with h | h
        · exact absurd h.symm e
        · exact h
      rw [if_neg e, List.getElem?_cons_succ]; exact rowAt_get r fs h'

section
variable {M N M' N' : Nat} {h : H} {u v : V}
theorem inV_row {fs : List (List Int)} {r : List Int} (rf : Rd M N h (iLL fs) v) (rr : Rd M' N' h (iL r) u) : inV h u v = some (decide (r ∈ fs)) := by
  unfold inV
  rw [Rd.rd _ v 6 rf (by have := dep_iLL fs; omega), Rd.rd _ u 6 rr (by have := dep_iL r; omega)]
  have h1 : PyData.canLayAll0 (fs.map iL) = true := by have := lay_iLL fs; rwa [PyData.canLay0] at this
  simp only [iLL, h1, lay_iL r, Bool.and_self, if_true, any_row]
theorem indexV_row {fs : List (List Int)} {r : List Int} (rf : Rd M N h (iLL fs) v) (rr : Rd M' N' h (iL r) u) (hm : r ∈ fs) : indexV h v u = some (rowAt r fs) := by
  unfold indexV
  rw [Rd.rd _ v 6 rf (by have := dep_iLL fs; omega), Rd.rd _ u 6 rr (by have := dep_iL r; omega)]
  have h1 : PyData.canLayAll0 (fs.map iL) = true := by have := lay_iLL fs; rwa [PyData.canLay0] at this
  simp only [iLL, h1, lay_iL r, Bool.and_self, if_true, find_row r fs hm]
end

theorem ev_index {C : Cx} {σ : Sto} {h h1 h2 : H} {o x : X} {a k : Nat} {vs : List V} {v : V} (eo : ev C o σ h = .ok (.ref a) h1) (ha : h1[a]? = some (O.list vs)) (ex : ev C x σ h1 = .ok v h2) (ha1 : h2[a]? = some (O.list vs)) (hi : indexV h2 (.ref a) v = some k) (hb : vs.length ≤ big) :
    ev C (.meth .index o [x]) σ h = .ok (.int k) h2 := by
  rw [ev, eo]
  simp [R.bind, kindV, ha, evL, ex, meV, ha1, hi, hb]

/-- what places_of tells of rows -/
structure PlOk (rows fs : List (List Int)) (fd : List Int) : Prop where
  len : fd.length = rows.length
  at_ : ∀ (i : Nat) (r : List Int), rows[i]? = some r → ∃ k : Nat, fd[i]? = some (k : Int) ∧ fs[k]? = some r
  nod : fs.Nodup
  all : ∀ k, k < fs.length → (k : Int) ∈ fd
  sub : ∀ f ∈ fs, f ∈ rows
  few : fs.length ≤ rows.length
theorem PlOk.nil : PlOk [] [] [] := ⟨rfl, fun i r h => (by simp at h), .nil, fun k h => (by cases h), fun _ h => (by cases h), Nat.le_refl _⟩
theorem PlOk.old {rows fs : List (List Int)} {fd : List Int} (x : PlOk rows fs fd) {r : List Int} (hm : r ∈ fs) : PlOk (rows ++ [r]) fs (fd ++ [(rowAt r fs : Int)]) := by
  refine ⟨by simp [x.len], fun i q hq => ?_, x.nod, fun k hk => List.mem_append_left _ (x.all k hk), fun f hf => List.mem_append_left _ (x.sub f hf), by rw [List.length_append]; have := x.few; omega⟩
  by_cases hi : i < rows.length
  · rw [List.getElem?_append_left hi] at hq
    obtain ⟨k, h1, h2⟩ := x.at_ i q hq
    exact ⟨k, by rw [List.getElem?_append_left (by rw [x.len]; exact hi)]; exact h1, h2⟩
  · have hi2 : i = rows.length := by
      have := (List.getElem?_eq_some_iff.mp hq).1
      rw [List.length_append, List.length_singleton] at this; omega
    subst hi2
    rw [List.getElem?_append_right (Nat.le_refl _), Nat.sub_self] at hq
    have hq' : r = q := by injection hq
    subst hq'
    exact ⟨rowAt r fs, by rw [List.getElem?_append_right (by rw [x.len]; exact Nat.le_refl _), x.len, Nat.sub_self]; rfl, rowAt_get r fs hm⟩
theorem rowAt_new {r : List Int} : ∀ {fs : List (List Int)}, r ∉ fs → rowAt r (fs ++ [r]) = fs.length
  | [], _ => by simp [rowAt]
  | f :: fs, h => by
    rw [List.cons_append, rowAt, if_neg (fun e => h (by simp [e])), rowAt_new (fun q => h (by simp [q]))]; rfl
theorem PlOk.new {rows fs : List (List Int)} {fd : List Int} (x : PlOk rows fs fd) {r : List Int} (hm : r ∉ fs) : PlOk (rows ++ [r]) (fs ++ [r]) (fd ++ [(rowAt r (fs ++ [r]) : Int)]) := by
  have y : PlOk (rows ++ [r]) (fs ++ [r]) (fd ++ [(fs.length : Int)]) := by
    refine ⟨by simp [x.len], fun i q hq => ?_, ?_, fun k hk => ?_, fun f hf => ?_, by simp; exact x.few⟩
    · by_cases hi : i < rows.length
      · rw [List.getElem?_append_left hi] at hq
        obtain ⟨k, h1, h2⟩ := x.at_ i q hq
        exact ⟨k, by rw [List.getElem?_append_left (by rw [x.len]; exact hi)]; exact h1, by rw [List.getElem?_append_left (List.getElem?_eq_some_iff.mp h2).1]; exact h2⟩
      · have hi2 : i = rows.length := by
          have := (List.getElem?_eq_some_iff.mp hq).1
          rw [List.length_append, List.length_singleton] at this; omega
        subst hi2
        rw [List.getElem?_append_right (Nat.le_refl _), Nat.sub_self] at hq
        have hq' : r = q := by injection hq
        subst hq'
        exact ⟨fs.length, by rw [List.getElem?_append_right (by rw [x.len]; exact Nat.le_refl _), x.len, Nat.sub_self]; rfl, by simp⟩
    · rw [List.nodup_append]
      exact ⟨x.nod, by simp, fun a ha b hb => by rw [List.mem_singleton.mp hb]; exact fun e => hm (e ▸ ha)⟩
    · rw [List.length_append, List.length_singleton] at hk
      by_cases hk2 : k < fs.length
      · exact List.mem_append_left _ (x.all k hk2)
      · rw [show k = fs.length by omega]; simp
    · rcases List.mem_append.mp hf with hf | hf
      · exact List.mem_append_left _ (x.sub f hf)
      · exact List.mem_append_right _ hf
  rw [rowAt_new hm]; exact y

/-- the places of rows -/
theorem f_places (n : Nat) {h : H} {a M : Nat} {vs : List V} {rows : List (List Int)} (ha : h[a]? = some (O.list vs)) (rl : RdL M h.length h (rows.map iL) vs) (lr : rows.length ≤ 100) :
    ∃ b c d h' fs fd us, Fn defs consts (n + 1) 21 [.ref a] h = .ok (.ref d) h' ∧ h <+: h' ∧ h.length ≤ b ∧ h.length ≤ c ∧ h.length ≤ d ∧ h'[d]? = some (O.tuple [.ref b, .ref c]) ∧ h'[b]? = some (O.list (fd.map V.int)) ∧ h'[c]? = some (O.list us) ∧ RdL M h.length h' (fs.map iL) us ∧ PlOk rows fs fd := by
  rw [fn_at (d := d_places_of) rfl]
  simp only [runDef, d_places_of, List.length_cons, List.length_nil, if_true]
  have p1 : h <+: h ++ [O.list []] := List.prefix_append _ _
  have p2 : h ++ [O.list []] <+: (h ++ [O.list []]) ++ [O.list []] := List.prefix_append _ _
  rw [exs_next (ex_assign (v := .ref h.length) (h' := h ++ [O.list []]) (ev_list evL_nil (Nat.zero_le _))),
    exs_next (ex_assign (v := .ref (h ++ [O.list []]).length) (h' := (h ++ [O.list []]) ++ [O.list []]) (ev_list evL_nil (Nat.zero_le _)))]
  generalize hσ : upd (upd (updL noSto [42] [.ref a]) 43 (.ref h.length)) 44 (.ref (h ++ [O.list []]).length) = σ1
  have s42 : σ1 42 = some (.ref a) := by rw [← hσ]; rfl
  have s43 : σ1 43 = some (.ref h.length) := by rw [← hσ]; rfl
  have s44 : σ1 44 = some (.ref (h.length + 1)) := by rw [← hσ, ← show (h ++ [O.list []]).length = h.length + 1 by simp]; rfl
  clear hσ
  have k43 : ((h ++ [O.list []]) ++ [O.list []])[h.length]? = some (O.list []) := by simp
  have k44 : ((h ++ [O.list []]) ++ [O.list []])[h.length + 1]? = some (O.list []) := by
    rw [show h.length + 1 = (h ++ [O.list []]).length by simp]; simp
  have q2 := p1.trans p2
  generalize (h ++ [O.list []]) ++ [O.list []] = h2 at q2 k43 k44
  clear p1 p2
  obtain ⟨z1, z2, z3⟩ := zip_pairs rl
  obtain ⟨σ3, h3, e3, done, fs, fd, us, hd, hok, p3, g43, grl, g44, ag⟩ := forR_inv (src := ⟨vs, some (a, .list vs)⟩) (body := fun x σ1 h2 => exs (cx defs consts n) [.ite (.cmp (.var 4) [.NotIn] [(.var 43)]) [.expr (.meth .append (.var 43) [(.var 4)])] [], .expr (.meth .append (.var 44) [(.meth .index (.var 43) [(.var 4)])])] (upd σ1 4 x) h2)
    (fun rem σ h' => ∃ done fs fd us, rows = done ++ rem ∧ PlOk done fs fd ∧ h <+: h' ∧ h'[h.length]? = some (O.list us) ∧ RdL M h.length h' (fs.map iL) us ∧ h'[h.length + 1]? = some (O.list (fd.map V.int)) ∧ Agr [4] σ1 σ)
    (fun _ _ _ ⟨_, _, _, _, _, _, p, _⟩ => pre_get p ha) (vs.zip rows) σ1 h2
    (fun q hq rem σ h' ⟨done, fs, fd, us, hd, hok, p, g43, grl, g44, ag⟩ => by
      obtain ⟨m1, m2⟩ := z3 q hq
      have ag1 : Agr [4] σ1 (upd σ 4 q.1) := ag.upd (by decide)
      have t43 : (upd σ 4 q.1) 43 = some (.ref h.length) := by rw [ag1 43 (by decide)]; exact s43
      have t44 : (upd σ 4 q.1) 44 = some (.ref (h.length + 1)) := by rw [ag1 44 (by decide)]; exact s44
      have t4 : (upd σ 4 q.1) 4 = some q.1 := rfl
      have lt44 := (List.getElem?_eq_some_iff.mp g44).1
      have rr : Rd M h.length h' (iL q.2) q.1 := m2.pre p (Nat.le_refl _) (Nat.le_refl _) (Nat.le_refl _)
      have ld : done.length ≤ 100 := by have := congrArg List.length hd; rw [List.length_append] at this; omega
      have lus : us.length = fs.length := by rw [grl.length, List.length_map]
      have lfs := hok.few
      have lfd := hok.len
      have rf : Rd 0 h'.length h' (iLL fs) (.ref h.length) := ⟨h.length, us, rfl, Nat.zero_le _, by omega, g43, RdL.same (Same.refl _ _ _) (Nat.zero_le _) (by omega) _ _ grl⟩
      have et := ev_cmp (C := cx defs consts n) (op := .NotIn) (t := !decide (q.2 ∈ fs)) (ev_var t4) (ev_var t43) (h2 := h') (by simp only [cmpV, inV_row rf rr, Option.map_some])
      have hrem : rows = (done ++ [q.2]) ++ rem := by rw [hd]; simp
      by_cases hm : q.2 ∈ fs
      · rw [decide_eq_true hm] at et
        have hok2 := hok.old hm
        refine ⟨upd σ 4 q.1, h'.set (h.length + 1) (.list (fd.map V.int ++ [.int (rowAt q.2 fs)])), ?_, done ++ [q.2], fs, fd ++ [(rowAt q.2 fs : Int)], us, hrem, hok2, pre_set p (by omega), by rw [List.getElem?_set_ne (by omega)]; exact g43, ?_, by rw [List.getElem?_set_self lt44, List.map_append]; rfl, ag1⟩
        · show exs _ _ (upd σ 4 q.1) h' = _
          rw [exs_next (by rw [ex_iteF et, exs_nil]), exs_next (ex_expr (ev_append (ev_var t44) g44 (ev_index (ev_var t43) g43 (ev_var t4) g43 (indexV_row rf rr hm) (by unfold big; omega)) g44 (by rw [List.length_map]; unfold big; omega))), exs_nil]
        · exact RdL.same (Same.set (.inr (by omega))) (Nat.le_refl _) (Nat.le_refl _) _ _ grl
      · rw [decide_eq_false hm] at et
        have hok2 := hok.new hm
        have lt43 := (List.getElem?_eq_some_iff.mp g43).1
        have gA : (h'.set h.length (.list (us ++ [q.1])))[h.length]? = some (O.list (us ++ [q.1])) := by rw [List.getElem?_set_self lt43]
        have gB : (h'.set h.length (.list (us ++ [q.1])))[h.length + 1]? = some (O.list (fd.map V.int)) := by rw [List.getElem?_set_ne (by omega)]; exact g44
        have sm : Same M h.length h' (h'.set h.length (.list (us ++ [q.1]))) := Same.set (.inr (Nat.le_refl _))
        have rl2 : RdL M h.length (h'.set h.length (.list (us ++ [q.1]))) ((fs ++ [q.2]).map iL) (us ++ [q.1]) := by
          rw [List.map_append]
          exact RdL.append (RdL.same sm (Nat.le_refl _) (Nat.le_refl _) _ _ grl) ⟨q.1, [], rfl, Rd.same sm (Nat.le_refl _) (Nat.le_refl _) _ _ rr, rfl⟩
        have rr2 := Rd.same sm (Nat.le_refl _) (Nat.le_refl _) _ _ rr
        have lset : (h'.set h.length (O.list (us ++ [q.1]))).length = h'.length := by simp
        have rf2 : Rd 0 h'.length (h'.set h.length (.list (us ++ [q.1]))) (iLL (fs ++ [q.2])) (.ref h.length) := ⟨h.length, us ++ [q.1], rfl, Nat.zero_le _, by omega, gA, RdL.same (Same.refl _ _ _) (Nat.zero_le _) (by omega) _ _ rl2⟩
        have lt44' : h.length + 1 < (h'.set h.length (O.list (us ++ [q.1]))).length := by omega
        refine ⟨upd σ 4 q.1, (h'.set h.length (.list (us ++ [q.1]))).set (h.length + 1) (.list (fd.map V.int ++ [.int (rowAt q.2 (fs ++ [q.2]))])), ?_, done ++ [q.2], fs ++ [q.2], fd ++ [(rowAt q.2 (fs ++ [q.2]) : Int)], us ++ [q.1], hrem, hok2, pre_set (pre_set p (Nat.le_refl _)) (by omega), by rw [List.getElem?_set_ne (by omega)]; exact gA, ?_, by rw [List.getElem?_set_self lt44', List.map_append]; rfl, ag1⟩
        · show exs _ _ (upd σ 4 q.1) h' = _
          rw [exs_next (by rw [ex_iteT et, exs_next (ex_expr (ev_append (ev_var t43) g43 (ev_var t4) g43 (by unfold big; omega))), exs_nil]),
            exs_next (ex_expr (ev_append (ev_var t44) gB (ev_index (ev_var t43) gA (ev_var t4) gA (indexV_row rf2 rr2 (by simp)) (by simp; unfold big; omega)) gB (by rw [List.length_map]; unfold big; omega))), exs_nil]
        · exact RdL.same (Same.set (.inr (by omega))) (Nat.le_refl _) (Nat.le_refl _) _ _ rl2)
    ⟨[], [], [], [], by rw [z2]; rfl, PlOk.nil, q2, k43, rfl, k44, Agr.refl _ _⟩
  rw [List.append_nil] at hd
  subst hd
  rw [z1] at e3
  rw [exs_next (ex_for (evS_list (ev_var s42) (pre_get q2 ha)) e3)]
  have t43 : σ3 43 = some (.ref h.length) := by rw [ag 43 (by decide)]; exact s43
  have t44 : σ3 44 = some (.ref (h.length + 1)) := by rw [ag 44 (by decide)]; exact s44
  have p4 : h3 <+: h3 ++ [O.tuple [.ref (h.length + 1), .ref h.length]] := List.prefix_append _ _
  have lt44 := (List.getElem?_eq_some_iff.mp g44).1
  refine ⟨h.length + 1, h.length, h3.length, h3 ++ [O.tuple [.ref (h.length + 1), .ref h.length]], fs, fd, us, ?_, p3.trans p4, by omega, Nat.le_refl _, by omega, by simp, pre_get p4 g44, pre_get p4 g43, grl.pre p4 (by omega) (Nat.le_refl _) (Nat.le_refl _), hok⟩
  rw [exs_ret (ex_retv (v := .ref h3.length) (h' := h3 ++ [O.tuple [.ref (h.length + 1), .ref h.length]]) (by
    rw [ev, evL_cons (ev_var t44) (evL_1 (ev_var t43))]; rfl))]
end Mine

set_option autoImplicit false
set_option linter.unusedVariables false
set_option linter.unusedSimpArgs false
set_option maxRecDepth 100000
namespace Mine
open PySem

/-- the place of a number among others -/
noncomputable def intAt (s : Int) : List Int → Nat
  | [] => 0
  | x :: xs => if x = s then 0 else intAt s xs + 1
theorem find_int (s : Int) : ∀ xs : List Int, s ∈ xs → (xs.map PyData.int).findIdx? (fun y => PyData.eqv y (.int s)) = some (intAt s xs)
  | [], h => by cases h
  | x :: xs, h => by
    rw [List.map_cons, List.findIdx?_cons, PyData.eqv, intAt]
    by_cases e : x = s
    · simp [e]
    · have h' : s ∈ xs := by
        rcases List.mem_cons.mp h with h | h
        · exact absurd h.symm e
        · exact h
      rw [find_int s xs h']
      simp [e]
theorem intAt_get (s : Int) : ∀ xs : List Int, s ∈ xs → xs[intAt s xs]? = some s
  | [], h => by cases h
  | x :: xs, h => by
    rw [intAt]
    by_cases e : x = s
    · simp [e]
    · have h' : s ∈ xs := by
        rcases List.mem_cons.mp h with h | h
        · exact absurd h.symm e
        · exact h
      rw [if_neg e, List.getElem?_cons_succ]; exact intAt_get s xs h'
theorem indexV_int {M N : Nat} {h : H} {v : V} {xs : List Int} {s : Int} (r : Rd M N h (iL xs) v) (hm : s ∈ xs) : indexV h v (.int s) = some (intAt s xs) := by
  unfold indexV
  rw [Rd.rd _ v 6 r (by have := dep_iL xs; omega), show Mine.rd 6 h (.int s) = some (.int s) from rfl]
  have : PyData.canLayAll0 (xs.map .int) = true := by have := lay_iL xs; rwa [PyData.canLay0] at this
  simp only [iL, this, show PyData.canLay0 (.int s) = true from by simp [PyData.canLay0], Bool.and_self, if_true, find_int s xs hm]

/-- the columns of a cloth -/
noncomputable def colsOf (m : List (List Int)) (w : Nat) : List (List Int) := (upto w).map fun k => m.map fun r => getI r k
/-- the ties of the loom -/
noncomputable def tiesOf (fs : List (List Int)) (n : Nat) (fd : List Int) : List (List Int) := fs.map fun r => (upto n).filter fun s => decide (getI r (intAt s fd) = 1)

theorem ev_tuple {C : Cx} {σ : Sto} {h h1 : H} {es : List X} {vs : List V} (e : evL C es σ h = .ok vs h1) (hb : vs.length ≤ big) : ev C (.tup es) σ h = .ok (.ref h1.length) (h1 ++ [.tuple vs]) := by
  rw [ev, e]; simp only [R.bind, hb, if_true, Mine.alloc]
theorem tup_at {h : H} {a : Nat} {vs : List V} (ha : h[a]? = some (O.tuple vs)) : tupAt h (.ref a) = some vs := by simp only [tupAt, ha]

/-- the loom of a cloth -/
theorem f_loomof (n : Nat) {h : H} {v : V} {M N w : Nat} {m : List (List Int)} (r : Rd M N h (iLL m) v) (hN : N ≤ h.length) (L : IsCl m w) :
    ∃ d b c t h' fs1 fd1 fs2 fd2, Fn defs consts (n + 5) 22 [v] h = .ok (.ref d) h' ∧ h <+: h' ∧ h.length ≤ d ∧ h'[d]? = some (O.tuple [.ref b, t, .ref c]) ∧ h.length ≤ b ∧ h'[b]? = some (O.list (fd1.map V.int)) ∧ h.length ≤ c ∧ h'[c]? = some (O.list (fd2.map V.int)) ∧
      Rd h.length h'.length h' (iLL (tiesOf fs2 fs1.length fd1)) t ∧ PlOk (colsOf m w) fs1 fd1 ∧ PlOk m fs2 fd2 := by
  rw [fn_at (d := d_loom_of) rfl]
  simp only [runDef, d_loom_of, List.length_cons, List.length_nil, if_true]
  obtain ⟨v1, h1, e1, p1, q1⟩ := f_needCloth n r hN L
  have hl := L.len
  have hw := L.wid
  obtain ⟨a, vs, rfl, ga, _, ha, rl, lv⟩ := rows_at q1
  have hb : vs.length ≤ big := lv ▸ big_hi (to12 hl.2)
  obtain ⟨z1, z2, z3⟩ := zip_pairs rl
  have zl : (vs.zip m).length ≤ big := by rw [← List.length_map (f := (·.1)), z1]; exact hb
  rw [exs_next (ex_assign (ev_callF (evL_1 (ev_var (i := 39) (v := v) rfl)) e1))]
  -- the columns
  obtain ⟨v2, h2, e2, p2, q2⟩ := comp_all (C := cx defs consts (n + 4)) (σ := upd (updL noSto [39] [v]) 45 (.ref a)) (h := h1) (elt := (.comp (.sub (.var 38) (.var 5)) 38 (.val (.var 45)) [])) (i := 5) (it := .range [(.bi .len [(.sub (.var 45) (.int 0))])])
    h.length (intPairs (upto w)) (fun k => iL (m.map fun r => getI r k)) (evS_rangeN (cl_wid (v := .ref a) (s := 45) rfl q1 L) (to12 hw.2)) (by rw [intPairs_1]) (pairs_big (to12 hw.2)) trivial (pre_len p1) (fun q hq h3 p3 => by
      obtain ⟨hk, hq⟩ := intPairs_mem hq
      have hk := upto_mem.mp hk
      have ha3 := pre_get p3 ha
      obtain ⟨y, h4, e4, p4, q4⟩ := comp_all (C := cx defs consts (n + 4)) (σ := upd (upd (updL noSto [39] [v]) 45 (.ref a)) 5 q.1) (h := h3) (elt := (.sub (.var 38) (.var 5))) (i := 38) (it := .val (.var 45))
        h.length (vs.zip m) (fun r => .int (getI r q.2)) (evS_list (ev_var (i := 45) (v := .ref a) rfl) ha3) z1.symm zl ha3 (pre_len (p1.trans p3)) (fun u hu h5 p5 => by
          obtain ⟨m1, m2⟩ := z3 u hu
          obtain ⟨b, hb', _, _, hb3⟩ := row_is m2
          have lb : (u.2.map V.int).length = w := by rw [List.length_map]; exact (L.row _ m1).1
          exact ⟨_, h5, ev_subL (ev_var (i := 38) (v := .ref b) (by rw [← hb']; rfl)) (ev_var (i := 5) (v := .int q.2) (by rw [← hq]; rfl)) (.inl (pre_get (p3.trans p5) hb3)) (lb ▸ big_hi (to12 hw.2)) hk.1 (by rw [List.getElem?_map, (getI_mem hk.1 (by rw [(L.row _ m1).1]; exact hk.2)).2]; rfl), List.prefix_refl _, rfl⟩)
      rw [z2] at q4
      exact ⟨y, h4, e4, p4, by rw [iL, List.map_map]; exact q4⟩)
  rw [intPairs_2] at q2
  have q2 : Rd h.length h2.length h2 (iLL (colsOf m w)) v2 := by rw [iLL, colsOf, List.map_map]; exact q2
  obtain ⟨a2, vs2, rfl, ga2, _, ha2, rl2, lv2⟩ := rows_at q2
  have lc : (colsOf m w).length = w := by unfold colsOf; rw [List.length_map, upto_len]; omega
  rw [exs_next (ex_assign e2)]
  -- threading and shafts
  obtain ⟨b1, c1, d1, h3, fs1, fd1, us1, e3, p3, gb1, gc1, gd1, hd1, hb1, hc1, ru1, P1⟩ := f_places (n + 3) ha2 rl2 (by rw [lc]; exact Nat.le_trans hw.2 (by decide))
  rw [exs_next (ex_unpack (ev_callF (evL_1 (ev_var (i := 46) (v := .ref a2) rfl)) e3) (tup_at hd1) rfl)]
  -- treadling and treadles
  have q3 := p2.trans p3
  have rl3 : RdL h.length h3.length h3 (m.map iL) vs := rl.pre q3 (Nat.le_refl _) (Nat.le_refl _) (pre_len q3)
  obtain ⟨b2, c2, d2, h4, fs2, fd2, us2, e4, p4, gb2, gc2, gd2, hd2, hb2, hc2, ru2, P2⟩ := f_places (n + 3) (pre_get q3 ha) rl3 (Nat.le_trans hl.2 (by decide))
  rw [exs_next (ex_unpack (ev_callF (evL_1 (ev_var (i := 45) (v := .ref a) rfl)) e4) (tup_at hd2) rfl)]
  have l12 := pre_len p1
  have l23 := pre_len p2
  have l34 := pre_len p3
  have l45 := pre_len p4
  generalize hσ : updL (updL (upd (upd (updL noSto [39] [v]) 45 (.ref a)) 46 (.ref a2)) [6, 47] [.ref b1, .ref c1]) [8, 48] [.ref b2, .ref c2] = σ
  have s6 : σ 6 = some (.ref b1) := by rw [← hσ]; rfl
  have s47 : σ 47 = some (.ref c1) := by rw [← hσ]; rfl
  have s8 : σ 8 = some (.ref b2) := by rw [← hσ]; rfl
  have s48 : σ 48 = some (.ref c2) := by rw [← hσ]; rfl
  clear hσ e1 e2 e3 e4
  have lf1 := P1.few
  have lf2 := P2.few
  have ld1 := P1.len
  rw [lc] at lf1 ld1
  have lf12 : fs1.length ≤ 1000 := to12 (Nat.le_trans lf1 hw.2)
  have g02 : h.length ≤ h2.length := Nat.le_trans l12 l23
  have g03 : h.length ≤ h3.length := Nat.le_trans g02 l34
  have g04 : h.length ≤ h4.length := Nat.le_trans g03 l45
  have lu1 : us1.length = fs1.length := by rw [ru1.length, List.length_map]
  have hb1' := pre_get p4 hb1
  have hc1' := pre_get p4 hc1
  have el : ∀ {σ' : Sto} {h' : H}, h4 <+: h' → σ' 47 = some (.ref c1) → ev (cx defs consts (n + 4)) (.bi .len [(.var 47)]) σ' h' = .ok (.int fs1.length) h' := fun p s => by
    rw [ev_len (ev_var s) (.inl (pre_get p hc1')) (lu1 ▸ big_hi lf12), lu1]
  -- where each shaft stands first
  obtain ⟨v5, h5, e5, p5, q5⟩ := comp_all (C := cx defs consts (n + 4)) (σ := σ) (h := h4) (elt := (.meth .index (.var 6) [(.var 11)])) (i := 11) (it := .range [(.bi .len [(.var 47)])])
    h.length (intPairs (upto fs1.length)) (fun s => .int (intAt s fd1)) (evS_rangeN (el (List.prefix_refl _) s47) lf12) (by rw [intPairs_1]) (pairs_big lf12) trivial g04 (fun q hq h6 p6 => by
      obtain ⟨hk, hq⟩ := intPairs_mem hq
      have hk := upto_mem.mp hk
      have hb6 := pre_get p6 hb1'
      have hm : q.2 ∈ fd1 := by have := P1.all q.2.toNat (by omega); rwa [show ((q.2.toNat : Nat) : Int) = q.2 by omega] at this
      exact ⟨_, h6, ev_index (ev_var (i := 6) (v := .ref b1) (by exact s6)) hb6 (ev_var (i := 11) (v := .int q.2) (by rw [← hq]; rfl)) hb6 (indexV_int (rd_row (Nat.zero_le _) (List.getElem?_eq_some_iff.mp hb6).1 hb6) hm) (by rw [List.length_map, ld1]; exact big_hi (to12 hw.2)), List.prefix_refl _, rfl⟩)
  rw [intPairs_2] at q5
  obtain ⟨f, rfl, gf1, gf2, hf⟩ := row_is (xs := (upto fs1.length).map fun s => (intAt s fd1 : Int)) (by rw [iL, List.map_map]; exact q5)
  rw [exs_next (ex_assign e5)]
  have l56 := pre_len p5
  have g05 : h.length ≤ h5.length := Nat.le_trans g04 l56
  -- the ties
  obtain ⟨y1, y2, y3⟩ := zip_pairs ru2
  have lu2 : us2.length = fs2.length := by rw [ru2.length, List.length_map]
  have hc2' := pre_get p5 hc2
  obtain ⟨v6, h6, e6, p6, q6⟩ := comp_all (C := cx defs consts (n + 4)) (σ := upd σ 43 (.ref f)) (h := h5) (elt := (.comp (.var 11) 11 (.range [(.bi .len [(.var 47)])]) [(.cmp (.sub (.var 38) (.sub (.var 43) (.var 11))) [.Eq] [(.int 1)])])) (i := 38) (it := .val (.var 48))
    h.length (us2.zip fs2) (fun r => iL ((upto fs1.length).filter fun s => decide (getI r (intAt s fd1) = 1))) (evS_list (ev_var (i := 48) (v := .ref c2) (by exact s48)) hc2') y1.symm (by rw [← List.length_map (f := (·.1)), y1, lu2]; exact big_hi (to12 (Nat.le_trans lf2 hl.2))) hc2' g05 (fun q hq h7 p7 => by
      obtain ⟨m1, m2⟩ := y3 q hq
      obtain ⟨b, hb', _, hbN, hb3⟩ := row_is m2
      have lq : q.2.length = w := (L.row _ (P2.sub _ m1)).1
      obtain ⟨y, h8, e8, p8, q8⟩ := comp_over (C := cx defs consts (n + 4)) (σ := upd (upd σ 43 (.ref f)) 38 q.1) (h := h7) (elt := .var 11) (i := 11) (it := .range [(.bi .len [(.var 47)])]) (ifs := [(.cmp (.sub (.var 38) (.sub (.var 43) (.var 11))) [.Eq] [(.int 1)])])
        h.length (intPairs (upto fs1.length)) (fun s => decide (getI q.2 (intAt s fd1) = 1)) (fun s => .int s) (evS_rangeN (el (p5.trans p7) (by exact s47)) lf12) (by rw [intPairs_1]) (pairs_big lf12) trivial (Nat.le_trans g05 (pre_len p7))
        (fun u hu h9 p9 => by
          obtain ⟨hk, hu⟩ := intPairs_mem hu
          have hk := upto_mem.mp hk
          refine ⟨h9, ?_, List.prefix_refl _⟩
          have hm : u.2 ∈ fd1 := by have := P1.all u.2.toNat (by omega); rwa [show ((u.2.toNat : Nat) : Int) = u.2 by omega] at this
          have hi := (List.getElem?_eq_some_iff.mp (intAt_get u.2 fd1 hm)).1
          have ef := ev_subL (C := cx defs consts (n + 4)) (σ := upd (upd (upd σ 43 (.ref f)) 38 q.1) 11 u.1) (h := h9) (ev_var (i := 43) (v := .ref f) rfl) (ev_var (i := 11) (v := .int u.2) (by rw [← hu]; rfl)) (.inl (pre_get (p7.trans p9) hf)) (by rw [List.length_map, List.length_map, upto_len]; exact big_hi lf12) hk.1 (v := .int (intAt u.2 fd1)) (by
            rw [List.getElem?_map, List.getElem?_map, List.getElem?_eq_getElem (by rw [upto_len]; omega), upto_get]
            show some (V.int (intAt ((u.2.toNat : Nat) : Int) fd1)) = _
            rw [show ((u.2.toNat : Nat) : Int) = u.2 by omega])
          have := i_eq (ev_subL (ev_var (i := 38) (v := .ref b) (by rw [← hb']; rfl)) ef (.inl (pre_get (p5.trans (p7.trans p9)) hb3)) (by rw [List.length_map, lq]; exact big_hi (to12 hw.2)) (Int.natCast_nonneg _) (v := .int (getI q.2 (intAt u.2 fd1))) (by rw [List.getElem?_map, (getI_mem (Int.natCast_nonneg _) (by rw [lq, ← ld1]; exact Int.ofNat_lt.mpr hi)).2]; rfl)) (ev_int 1)
          simp only [evT, testsR, this, truthV]
          cases decide (getI q.2 (intAt u.2 fd1) = 1) <;> rfl)
        (fun u hu _ h9 _ => by
          obtain ⟨_, hu⟩ := intPairs_mem hu
          exact ⟨_, h9, ev_var (i := 11) (v := .int u.2) (by rw [← hu]; rfl), List.prefix_refl _, rfl⟩)
      rw [intPairs_2] at q8
      exact ⟨y, h8, e8, p8, q8⟩)
  rw [y2] at q6
  rw [exs_next (ex_assign e6)]
  have l67 := pre_len p6
  have p7 : h6 <+: h6 ++ [O.tuple [.ref b1, v6, .ref b2]] := List.prefix_append _ _
  refine ⟨h6.length, b1, b2, v6, h6 ++ [O.tuple [.ref b1, v6, .ref b2]], fs1, fd1, fs2, fd2, ?_, (p1.trans (q3.trans (p4.trans (p5.trans p6)))).trans p7, Nat.le_trans g05 l67, by simp, Nat.le_trans g02 gb1, pre_get (p5.trans (p6.trans p7)) hb1', Nat.le_trans g03 gb2, pre_get (p5.trans (p6.trans p7)) hb2, ?_, P1, P2⟩
  · rw [exs_ret (ex_retv (ev_tuple (evL_cons (ev_var (i := 6) (v := .ref b1) (by exact s6)) (evL_cons (ev_var (i := 7) (v := v6) rfl) (evL_1 (ev_var (i := 8) (v := .ref b2) (by exact s8))))) (show 3 ≤ 1000000 by decide)))]
  · rw [iLL, tiesOf, List.map_map]; exact q6.pre p7 (Nat.le_refl _) (Nat.le_refl _) (pre_len p7)
end Mine

set_option autoImplicit false
set_option linter.unusedVariables false
set_option linter.unusedSimpArgs false
set_option maxRecDepth 100000
namespace Mine
open PySem

/-- a for that gives back at the first number that fails -/
theorem for_find {src : Src} {body : V → Sto → H → RS} {σ : Sto} {hp h : H} {t : List Nat} {p : Int → Bool} {A : Int → V → H → Prop} (ks : List Int) (hst : ∀ h, hp <+: h → src.stands h)
    (hb : ∀ k ∈ ks, ∀ σ' h, Agr t σ σ' → hp <+: h → (p k = true → ∃ σ'' h', body (.int k) σ' h = .next σ'' h' ∧ hp <+: h' ∧ Agr t σ σ'') ∧ (p k = false → ∃ v h', body (.int k) σ' h = .ret v h' ∧ hp <+: h' ∧ A k v h')) (h0 : hp <+: h) :
    (ks.find? (fun k => !p k) = none → ∃ σ' h', forR src body (ks.map V.int) σ h = .next σ' h' ∧ hp <+: h' ∧ Agr t σ σ') ∧ (∀ k, ks.find? (fun k => !p k) = some k → ∃ v h', forR src body (ks.map V.int) σ h = .ret v h' ∧ hp <+: h' ∧ A k v h') := by
  have key : ∀ (qs : List Int) (σ0 : Sto) (h : H), (∀ k ∈ qs, k ∈ ks) → Agr t σ σ0 → hp <+: h →
      (qs.find? (fun k => !p k) = none → ∃ σ' h', forR src body (qs.map V.int) σ0 h = .next σ' h' ∧ hp <+: h' ∧ Agr t σ σ') ∧ (∀ k, qs.find? (fun k => !p k) = some k → ∃ v h', forR src body (qs.map V.int) σ0 h = .ret v h' ∧ hp <+: h' ∧ A k v h') := by
    intro qs
    induction qs with
    | nil => intro σ0 h _ ag p1; exact ⟨fun _ => ⟨σ0, h, by rw [List.map_nil, forR, if_pos (hst h p1)], p1, ag⟩, fun k e => by cases e⟩
    | cons q qs ih =>
      intro σ0 h hm ag p1
      obtain ⟨bT, bF⟩ := hb q (hm q (by simp)) σ0 h ag p1
      cases z : p q with
      | false =>
        obtain ⟨v, h', e, p2, a⟩ := bF z
        refine ⟨fun y => by simp [z] at y, fun k y => ?_⟩
        have : q = k := by simpa [z] using y
        subst this
        exact ⟨v, h', by rw [List.map_cons, forR, if_pos (hst h p1), e], p2, a⟩
      | true =>
        obtain ⟨σ2, h2, e2, p2, ag2⟩ := bT z
        obtain ⟨i1, i2⟩ := ih σ2 h2 (fun k hk => hm k (by simp [hk])) ag2 p2
        refine ⟨fun y => ?_, fun k y => ?_⟩
        · obtain ⟨σ3, h3, e3, p3, ag3⟩ := i1 (by simpa [z] using y)
          exact ⟨σ3, h3, by rw [List.map_cons, forR, if_pos (hst h p1), e2]; exact e3, p3, ag3⟩
        · obtain ⟨v, h3, e3, p3, a⟩ := i2 k (by simpa [z] using y)
          exact ⟨v, h3, by rw [List.map_cons, forR, if_pos (hst h p1), e2]; exact e3, p3, a⟩
  exact key ks σ h (fun _ hk => hk) (Agr.refl _ _) h0

/-- the sign at which two threads cross -/
noncomputable def sgn (m : List (List Int)) (a b : Int) : Int := getI (getR m (if b < a then b else a)) ((if b > a then b else a) - m.length)
/-- the first thread at which two threads lie otherwise -/
noncomputable def apartOf (m : List (List Int)) (w : Nat) (a b : Int) : Option Int := (crossers m w a).find? fun t => !decide (sgn m a t = sgn m b t)
noncomputable def optD : Option Int → PyData
  | some k => .int k
  | none => .none
noncomputable def due9 (m : List (List Int)) (w : Nat) (a b : Int) : PyData := if (a < m.length) = (b < m.length) then .list [optD (apartOf m w a b)] else .str "thread "

section
variable {h : H} {v : V} {M N w : Nat} {m : List (List Int)}
theorem sgn_01 (L : IsCl m w) {a b : Int} (hc : Cross m w a b) : sgn m a b = 0 ∨ sgn m a b = 1 := by
  unfold sgn
  rcases hc with hc | hc
  · rw [if_neg (by omega), if_pos (by omega)]
    have h1 := L.row _ (getR_mem hc.1 hc.2.1).1
    have h2 := h1.2 _ (getI_mem (r := getR m a) (k := b - m.length) (by omega) (by omega)).1
    omega
  · rw [if_pos (by omega), if_neg (by omega)]
    have h1 := L.row _ (getR_mem hc.1 hc.2.1).1
    have h2 := h1.2 _ (getI_mem (r := getR m b) (k := a - m.length) (by omega) (by omega)).1
    omega
theorem sgn_comm (a b : Int) : sgn m a b = sgn m b a := by
  unfold sgn
  by_cases h1 : b < a
  · rw [if_pos h1, if_neg (show ¬ b > a by omega), if_neg (show ¬ a < b by omega), if_pos (show a > b by omega)]
  · by_cases h2 : a < b
    · rw [if_neg h1, if_pos (show b > a by omega), if_pos h2, if_neg (show ¬ a > b by omega)]
    · have : a = b := by omega
      rw [this]
/-- two threads of one way lie alike to a third -/
theorem lies_sgn (L : IsCl m w) {t a b : Int} (ha : Cross m w t a) (hb : Cross m w t b) : (lies m t a == lies m t b) = decide (sgn m a t = sgn m b t) := by
  have s1 := sgn_01 L ha
  have s2 := sgn_01 L hb
  rw [sgn_comm a t, sgn_comm b t]
  have key : ∀ {c : Int}, Cross m w t c → lies m t c = decide (sgn m t c = if t < m.length then 0 else 1) := fun {c} hc => by
    unfold lies sgn
    rcases hc with hc | hc
    · rw [if_pos hc.2.1, if_neg (by omega), if_pos (show c > t by omega), if_pos hc.2.1]
    · rw [if_neg (by omega), if_pos (by omega), if_neg (by omega), if_neg (by omega)]
  rw [key ha, key hb]
  by_cases q : t < m.length
  · rw [if_pos q]; rcases s1 with s1 | s1 <;> rcases s2 with s2 | s2 <;> rw [s1, s2] <;> rfl
  · rw [if_neg q]; rcases s1 with s1 | s1 <;> rcases s2 with s2 | s2 <;> rw [s1, s2] <;> rfl

theorem cross_of {t a : Int} (ha : 0 ≤ a ∧ a < m.length + w) (ht : t ∈ crossers m w a) : Cross m w t a := by
  unfold crossers at ht
  split at ht
  · have := fromTo_mem.mp ht; exact .inr (by omega)
  · have := upto_mem.mp ht; exact .inl (by omega)
theorem cross_same {t a b : Int} (hb : 0 ≤ b ∧ b < m.length + w) (hs : (a < m.length) = (b < m.length)) (ht : t ∈ crossers m w a) : Cross m w t b := by
  refine cross_of hb ?_
  unfold crossers at ht ⊢
  by_cases q : a < m.length
  · rw [if_pos q] at ht; rw [if_pos (hs ▸ q)]; exact ht
  · rw [if_neg q] at ht; rw [if_neg (hs ▸ q)]; exact ht
noncomputable def optV : Option Int → V
  | some k => .int k
  | none => .none
theorem f_apart (n : Nat) {a b : Int} (r : Rd M N h (iLL m) v) (hN : N ≤ h.length) (L : IsCl m w) (ha : 0 ≤ a ∧ a < m.length + w) (hb : 0 ≤ b ∧ b < m.length + w) (hs : (a < m.length) = (b < m.length)) :
    ∃ h', Fn defs consts (n + 5) 23 [v, .int a, .int b] h = .ok (optV (apartOf m w a b)) h' ∧ h <+: h' := by
  rw [fn_at (d := d_apart) rfl]
  obtain ⟨v1, h1, e1, p1, q1⟩ := f_needCloth n r hN L
  have r1 := r.pre p1 hN (Nat.le_refl _) (Nat.le_refl _)
  simp only [runDef, d_apart, List.length_cons, List.length_nil, if_true]
  generalize hσ : updL noSto [39, 4, 41] [v, .int a, .int b] = σ
  have s39 : σ 39 = some v := by rw [← hσ]; rfl
  have s4 : σ 4 = some (.int a) := by rw [← hσ]; rfl
  have s41 : σ 41 = some (.int b) := by rw [← hσ]; rfl
  clear hσ
  have va : ∀ {h : H}, ev (cx defs consts (n + 4)) (.var 4) σ h = .ok (.int a) h := ev_var s4
  have vb : ∀ {h : H}, ev (cx defs consts (n + 4)) (.var 41) σ h = .ok (.int b) h := ev_var s41
  have vc : ∀ {h : H}, ev (cx defs consts (n + 4)) (.var 39) σ h = .ok v h := ev_var s39
  have et := e_ne (t := true) (ev_callF (evL_cons vc (evL_1 va)) (f_weft (n + 3) a r1 L)) (ev_callF (evL_cons vc (evL_1 vb)) (f_weft (n + 3) b r1 L)) (by
    rw [eqV_bool, show decide (a < m.length) = decide (b < m.length) from decide_eq_decide.mpr (by rw [hs])]; simp)
  have ec := ev_callF (evL_cons vc (evL_1 va)) (f_crossing (n + 2) a r1 L)
  have hx : (h1 ++ [O.list ((crossers m w a).map V.int)])[h1.length]? = some (O.list ((crossers m w a).map V.int)) := by simp
  have p2 : h1 <+: h1 ++ [O.list ((crossers m w a).map V.int)] := List.prefix_append _ _
  generalize h1 ++ [O.list ((crossers m w a).map V.int)] = h2 at ec hx p2
  obtain ⟨fN, fS⟩ := for_find (src := ⟨(crossers m w a).map V.int, some (h1.length, .list ((crossers m w a).map V.int))⟩) (body := fun x σ1 h2 => exs (cx defs consts (n + 4)) [.ite (.cmp (.call 19 [(.var 39), (.var 40), (.var 4)]) [.NotEq] [(.call 19 [(.var 39), (.var 40), (.var 41)])]) [.ret (.var 40)] []] (upd σ1 40 x) h2)
    (σ := σ) (hp := h2) (h := h2) (t := [40]) (p := fun t => decide (sgn m a t = sgn m b t)) (A := fun k v _ => v = .int k) (crossers m w a) (fun _ p => pre_get p hx)
    (fun t ht σ' h' ag p => by
      have ag1 : Agr [40] σ (upd σ' 40 (.int t)) := ag.upd (by decide)
      have z39 : (upd σ' 40 (.int t)) 39 = some v := by rw [ag1 39 (by decide)]; exact s39
      have z4 : (upd σ' 40 (.int t)) 4 = some (.int a) := by rw [ag1 4 (by decide)]; exact s4
      have z41 : (upd σ' 40 (.int t)) 41 = some (.int b) := by rw [ag1 41 (by decide)]; exact s41
      have z40 : (upd σ' 40 (.int t)) 40 = some (.int t) := rfl
      have r2 := r.pre (p1.trans (p2.trans p)) hN (Nat.le_refl _) (Nat.le_refl _)
      have c1 := cross_of ha ht
      have c2 := cross_same hb hs ht
      have e2 := e_ne (t := decide (sgn m a t = sgn m b t)) (ev_callF (evL_cons (ev_var z39) (evL_cons (ev_var z40) (evL_1 (ev_var z4)))) (f_lies (n + 2) r2 L c1)) (ev_callF (evL_cons (ev_var z39) (evL_cons (ev_var z40) (evL_1 (ev_var z41)))) (f_lies (n + 2) r2 L c2)) (by rw [eqV_bool, lies_sgn L c1 c2])
      refine ⟨fun q => ⟨_, h', ?_, p, ag1⟩, fun q => ⟨.int t, h', ?_, p, rfl⟩⟩
      · rw [q] at e2
        show exs _ _ (upd σ' 40 (.int t)) h' = _
        rw [exs_next (by rw [ex_iteF e2, exs_nil]), exs_nil]
      · rw [q] at e2
        show exs _ _ (upd σ' 40 (.int t)) h' = _
        rw [exs_ret (by rw [ex_iteT e2, exs_ret (ex_retv (ev_var z40))])]) (List.prefix_refl _)
  have es := evS_list ec hx
  have go : ∀ {z : RS}, exs (cx defs consts (n + 4)) [.for 40 (.val (.call 20 [(.var 39), (.var 4)])) [.ite (.cmp (.call 19 [(.var 39), (.var 40), (.var 4)]) [.NotEq] [(.call 19 [(.var 39), (.var 40), (.var 41)])]) [.ret (.var 40)] []], .ret .none] σ h1 = z →
      exs (cx defs consts (n + 4)) [.expr (.call 15 [(.var 39)]), .expr (.call 17 [(.var 39), (.var 4)]), .expr (.call 17 [(.var 39), (.var 41)]), .ite (.cmp (.call 18 [(.var 39), (.var 4)]) [.NotEq] [(.call 18 [(.var 39), (.var 41)])]) [.raise 3] [], .for 40 (.val (.call 20 [(.var 39), (.var 4)])) [.ite (.cmp (.call 19 [(.var 39), (.var 40), (.var 4)]) [.NotEq] [(.call 19 [(.var 39), (.var 40), (.var 41)])]) [.ret (.var 40)] []], .ret .none] σ h = z := fun e => by
    rw [exs_next (ex_expr (ev_callF (evL_1 vc) e1)), exs_next (ex_expr (ev_callF (evL_cons vc (evL_1 va)) (f_needThr (n + 2) r1 L ha))), exs_next (ex_expr (ev_callF (evL_cons vc (evL_1 vb)) (f_needThr (n + 2) r1 L hb))), exs_next (σ' := σ) (h' := h1) (by rw [ex_iteF et, exs_nil]), e]
  cases q : apartOf m w a b with
  | none =>
    obtain ⟨σ3, h3, e3, p3, _⟩ := fN q
    refine ⟨h3, ?_, p1.trans (p2.trans p3)⟩
    rw [go (by rw [exs_next (ex_for es e3), exs_ret (ex_retv (by rw [ev]))])]; rfl
  | some k =>
    obtain ⟨u, h3, e3, p3, hu⟩ := fS k q
    subst hu
    refine ⟨h3, ?_, p1.trans (p2.trans p3)⟩
    rw [go (by rw [exs_ret (by rw [ex, es]; simp only [cx_calm, if_true]; exact e3)])]; rfl

theorem f_apartBad (n : Nat) {x y : V} (r : Rd M N h (iLL m) v) (hN : N ≤ h.length) (L : IsCl m w)
    (hb : Bad m w h x ∨ (Thr m w x ∧ Bad m w h y) ∨ ∃ a b : Int, x = .int a ∧ y = .int b ∧ (0 ≤ a ∧ a < m.length + w) ∧ (0 ≤ b ∧ b < m.length + w) ∧ ¬ (a < m.length) = (b < m.length)) : ∃ h', Fn defs consts (n + 5) 23 [v, x, y] h = .exc 3 h' ∧ h <+: h' := by
  rw [fn_at (d := d_apart) rfl]
  obtain ⟨v1, h1, e1, p1, q1⟩ := f_needCloth n r hN L
  have r1 := r.pre p1 hN (Nat.le_refl _) (Nat.le_refl _)
  refine ⟨h1, ?_, p1⟩
  simp only [runDef, d_apart, List.length_cons, List.length_nil, if_true]
  have va : ∀ {h : H}, ev (cx defs consts (n + 4)) (.var 4) (updL noSto [39, 4, 41] [v, x, y]) h = .ok x h := ev_var rfl
  have vb : ∀ {h : H}, ev (cx defs consts (n + 4)) (.var 41) (updL noSto [39, 4, 41] [v, x, y]) h = .ok y h := ev_var rfl
  have vc : ∀ {h : H}, ev (cx defs consts (n + 4)) (.var 39) (updL noSto [39, 4, 41] [v, x, y]) h = .ok v h := ev_var rfl
  rw [exs_next (ex_expr (ev_callF (evL_1 vc) e1))]
  rcases hb with hb | ⟨⟨i, rfl, hi⟩, hb⟩ | ⟨a, b, rfl, rfl, ha, hb, hs⟩
  · rw [exs_exc (ex_exprX (ev_callF (evL_cons vc (evL_1 va)) (f_needBad (n + 2) r1 L (hb.pre p1))))]
  · rw [exs_next (ex_expr (ev_callF (evL_cons vc (evL_1 va)) (f_needThr (n + 2) r1 L hi))), exs_exc (ex_exprX (ev_callF (evL_cons vc (evL_1 vb)) (f_needBad (n + 2) r1 L (hb.pre p1))))]
  · have et := e_ne (t := false) (ev_callF (evL_cons vc (evL_1 va)) (f_weft (n + 3) a r1 L)) (ev_callF (evL_cons vc (evL_1 vb)) (f_weft (n + 3) b r1 L)) (by
      rw [eqV_bool]
      by_cases q : a < m.length
      · rw [decide_eq_true q, decide_eq_false (fun z => hs (by simp [q, z]))]; rfl
      · rw [decide_eq_false q, decide_eq_true (show b < m.length by
          by_cases z : b < m.length
          · exact z
          · exact absurd (by simp [q, z]) hs)]; rfl)
    rw [exs_next (ex_expr (ev_callF (evL_cons vc (evL_1 va)) (f_needThr (n + 2) r1 L ha))), exs_next (ex_expr (ev_callF (evL_cons vc (evL_1 vb)) (f_needThr (n + 2) r1 L hb))), exs_exc (by rw [ex_iteT et, ex_raise])]

theorem rd_opt {B : Nat} {o : Option Int} (hB : B ≤ h.length) : Rd B (h ++ [O.list [optV o]]).length (h ++ [O.list [optV o]]) (.list [optD o]) (.ref h.length) := by
  refine ⟨h.length, [optV o], rfl, hB, by simp, by simp, ⟨optV o, [], rfl, ?_, rfl⟩⟩
  cases o <;> rfl

theorem f_told09 (n : Nat) {a b : Int} (r : Rd M N h (iLL m) v) (hN : N ≤ h.length) (L : IsCl m w) (ha : 0 ≤ a ∧ a < m.length + w) (hb : 0 ≤ b ∧ b < m.length + w) :
    ∃ u h', Fn defs consts (n + 6) 47 [v, .int a, .int b] h = .ok u h' ∧ h <+: h' ∧ Rd h.length h'.length h' (due9 m w a b) u := by
  rw [fn_at (d := d_told_l_09) rfl]
  simp only [runDef, d_told_l_09, List.length_cons, List.length_nil, if_true]
  have ea : ∀ {h : H}, evL (cx defs consts (n + 5)) [(.var 57), (.var 54), (.var 55)] (updL noSto [57, 54, 55] [v, .int a, .int b]) h = .ok [v, .int a, .int b] h := evL_cons (ev_var rfl) (evL_cons (ev_var rfl) (evL_1 (ev_var rfl)))
  unfold due9
  by_cases hs : (a < m.length) = (b < m.length)
  · rw [if_pos hs]
    obtain ⟨h1, e1, p1⟩ := f_apart n r hN L ha hb hs
    have p2 : h1 <+: h1 ++ [O.list [optV (apartOf m w a b)]] := List.prefix_append _ _
    refine ⟨.ref h1.length, h1 ++ [O.list [optV (apartOf m w a b)]], ?_, p1.trans p2, rd_opt (pre_len p1)⟩
    have eb : exs (cx defs consts (n + 5)) [.ret (.list [(.call 23 [(.var 57), (.var 54), (.var 55)])])] (updL noSto [57, 54, 55] [v, .int a, .int b]) h = .ret (.ref h1.length) (h1 ++ [O.list [optV (apartOf m w a b)]]) := by
      rw [exs_ret (ex_retv (ev_list (evL_1 (ev_callF ea e1)) (show 1 ≤ 1000000 by decide)))]
    rw [exs, ex, eb]
  · rw [if_neg hs]
    obtain ⟨h1, e1, p1⟩ := f_apartBad n r hN L (.inr (.inr ⟨a, b, rfl, rfl, ha, hb, hs⟩))
    obtain ⟨h2, e2, p2⟩ := told_bad (n + 4) 0 (ev_listX (evL_X1 (ev_callF ea e1)))
    exact ⟨_, h2, by rw [e2], p1.trans p2, rfl⟩
theorem f_told09Bad (n : Nat) {x y : V} (r : Rd M N h (iLL m) v) (hN : N ≤ h.length) (L : IsCl m w) (hb : Bad m w h x ∨ (Thr m w x ∧ Bad m w h y)) : ∃ h', Fn defs consts (n + 6) 47 [v, x, y] h = .ok (.str "thread ") h' ∧ h <+: h' := by
  rw [fn_at (d := d_told_l_09) rfl]
  simp only [runDef, d_told_l_09, List.length_cons, List.length_nil, if_true]
  obtain ⟨h1, e1, p1⟩ := f_apartBad n r hN L (x := x) (y := y) (hb.imp id .inl)
  obtain ⟨h2, e2, p2⟩ := told_bad (n + 4) 0 (ev_listX (evL_X1 (ev_callF (σ := updL noSto [57, 54, 55] [v, x, y]) (evL_cons (ev_var (i := 57) (v := v) rfl) (evL_cons (ev_var (i := 54) (v := x) rfl) (evL_1 (ev_var (i := 55) (v := y) rfl)))) e1)))
  exact ⟨h2, by rw [e2], p1.trans p2⟩
end
end Mine

set_option autoImplicit false
set_option linter.unusedVariables false
set_option linter.unusedSimpArgs false
set_option maxRecDepth 100000
namespace Mine
open PySem

theorem i_most {C : Cx} {σ : Sto} {h h1 h2 : H} {x y : X} {a b : Int} (e1 : ev C x σ h = .ok (.int a) h1) (e2 : ev C y σ h1 = .ok (.int b) h2) (hc : C.calm = true := by rfl) : ev C (.bi .max [x, y]) σ h = .ok (.int (if b > a then b else a)) h2 := by
  rw [ev, evL_cons e1 (evL_1 e2)]; simp only [R.bind, hc, Bool.true_or, if_true, biV, bi2]
theorem i_least {C : Cx} {σ : Sto} {h h1 h2 : H} {x y : X} {a b : Int} (e1 : ev C x σ h = .ok (.int a) h1) (e2 : ev C y σ h1 = .ok (.int b) h2) (hc : C.calm = true := by rfl) : ev C (.bi .min [x, y]) σ h = .ok (.int (if b < a then b else a)) h2 := by
  rw [ev, evL_cons e1 (evL_1 e2)]; simp only [R.bind, hc, Bool.true_or, if_true, biV, bi2]

section
variable {h : H} {v : V} {M N w : Nat} {m : List (List Int)}
theorem f_sgn (n : Nat) {a b : Int} (r : Rd M N h (iLL m) v) (L : IsCl m w) (hc : Cross m w a b) : Fn defs consts (n + 1) 48 [v, .int a, .int b] h = .ok (.int (sgn m a b)) h := by
  rw [fn_at (d := d_lies_l) rfl]
  simp only [runDef, d_lies_l, List.length_cons, List.length_nil, if_true]
  have hr : (0 ≤ (if b < a then b else a) ∧ (if b < a then b else a) < m.length) ∧ 0 ≤ (if b > a then b else a) - (m.length : Int) ∧ (if b > a then b else a) - (m.length : Int) < w := by
    rcases hc with hc | hc
    · rw [if_neg (show ¬ b < a by omega), if_pos (show b > a by omega)]; omega
    · rw [if_pos (show b < a by omega), if_neg (show ¬ b > a by omega)]; omega
  rw [exs_next (ex_assign (cl_len (v := v) rfl r L)), exs_ret (ex_retv (ev_at (s := 57) (v := v) rfl r L (i_least (ev_var (i := 54) (v := .int a) rfl) (ev_var (i := 55) (v := .int b) rfl)) (i_sub (i_most (ev_var (i := 54) (v := .int a) rfl) (ev_var (i := 55) (v := .int b) rfl)) (ev_var (i := 21) (v := .int m.length) rfl)) hr.1 hr.2))]
  rfl

theorem apart_find {a b : Int} : apartOf m w a b = (upto ((m.length : Int) + w)).find? (fun t : Int => !(!decide (¬ (a < m.length ↔ t < m.length)) || decide (sgn m a t = sgn m b t))) := by
  unfold apartOf
  rw [← crossers_eq, List.find?_filter]
  congr 1; funext t
  cases decide (¬ (a < m.length ↔ t < m.length)) <;> cases decide (sgn m a t = sgn m b t) <;> rfl

theorem f_due09 (n : Nat) {a b : Int} (r : Rd M N h (iLL m) v) (hN : N ≤ h.length) (L : IsCl m w) (ha : 0 ≤ a ∧ a < m.length + w) (hb : 0 ≤ b ∧ b < m.length + w) :
    ∃ u h', Fn defs consts (n + 2) 49 [v, .int a, .int b] h = .ok u h' ∧ h <+: h' ∧ Rd h.length h'.length h' (due9 m w a b) u := by
  rw [fn_at (d := d_due_l) rfl]
  simp only [runDef, d_due_l, List.length_cons, List.length_nil, if_true]
  have hl := L.len
  have hw := L.wid
  rw [exs_next (ex_assign (cl_len (v := v) rfl r L)), exs_next (ex_assign (i_add (ev_var (i := 21) (v := .int m.length) rfl) (cl_wid (v := v) rfl r L)))]
  generalize hσ : upd (upd (updL noSto [57, 54, 55] [v, .int a, .int b]) 21 (.int (m.length : Int))) 74 (.int ((m.length : Int) + (w : Int))) = σ
  have s57 : σ 57 = some v := by rw [← hσ]; rfl
  have s54 : σ 54 = some (.int a) := by rw [← hσ]; rfl
  have s55 : σ 55 = some (.int b) := by rw [← hσ]; rfl
  have s21 : σ 21 = some (.int m.length) := by rw [← hσ]; rfl
  have s74 : σ 74 = some (.int (m.length + w)) := by rw [← hσ]; rfl
  clear hσ
  have et := e_ne (C := cx defs consts (n + 1)) (h := h) (t := decide (a < m.length) == decide (b < m.length)) (i_lt (ev_var s54) (ev_var s21)) (i_lt (ev_var s55) (ev_var s21)) (eqV_bool _ _ _)
  unfold due9
  by_cases hs : (a < m.length) = (b < m.length)
  · rw [if_pos hs]
    rw [show (decide (a < m.length) == decide (b < m.length)) = true from by rw [show decide (a < m.length) = decide (b < m.length) from decide_eq_decide.mpr (by rw [hs])]; simp] at et
    rw [exs_next (σ' := σ) (h' := h) (by rw [ex_iteF et, exs_nil])]
    obtain ⟨fN, fS⟩ := for_find (src := ⟨(upto (m.length + w)).map V.int, none⟩) (body := fun x σ1 h2 => exs (cx defs consts (n + 1)) [.ite (.cmp (.cmp (.var 61) [.Lt] [(.var 21)]) [.NotEq] [(.cmp (.var 54) [.Lt] [(.var 21)])]) [.ite (.cmp (.call 48 [(.var 57), (.var 54), (.var 61)]) [.NotEq] [(.call 48 [(.var 57), (.var 55), (.var 61)])]) [.ret (.list [(.var 61)])] []] []] (upd σ1 61 x) h2)
      (σ := σ) (hp := h) (h := h) (t := [61]) (p := fun t => !decide (¬ (a < m.length ↔ t < m.length)) || decide (sgn m a t = sgn m b t)) (A := fun k v h' => Rd h.length h'.length h' (.list [.int k]) v) (upto (m.length + w)) (fun _ _ => trivial)
      (fun t ht σ' h' ag p => by
        have ht := upto_mem.mp ht
        have ag1 : Agr [61] σ (upd σ' 61 (.int t)) := ag.upd (by decide)
        have z57 : (upd σ' 61 (.int t)) 57 = some v := by rw [ag1 57 (by decide)]; exact s57
        have z54 : (upd σ' 61 (.int t)) 54 = some (.int a) := by rw [ag1 54 (by decide)]; exact s54
        have z55 : (upd σ' 61 (.int t)) 55 = some (.int b) := by rw [ag1 55 (by decide)]; exact s55
        have z21 : (upd σ' 61 (.int t)) 21 = some (.int m.length) := by rw [ag1 21 (by decide)]; exact s21
        have z61 : (upd σ' 61 (.int t)) 61 = some (.int t) := rfl
        have e2 := e_ne (C := cx defs consts (n + 1)) (h := h') (t := decide (t < m.length) == decide (a < m.length)) (i_lt (ev_var z61) (ev_var z21)) (i_lt (ev_var z54) (ev_var z21)) (eqV_bool _ _ _)
        by_cases q : (a < m.length ↔ t < m.length)
        · rw [show (decide (t < m.length) == decide (a < m.length)) = true from by rw [show decide (t < m.length) = decide (a < m.length) from decide_eq_decide.mpr q.symm]; simp] at e2
          rw [decide_eq_false (show ¬ ¬ (a < m.length ↔ t < m.length) from fun z => z q)]
          refine ⟨fun _ => ⟨_, h', ?_, p, ag1⟩, fun z => (by simp at z)⟩
          show exs _ _ (upd σ' 61 (.int t)) h' = _
          rw [exs_next (by rw [ex_iteF e2, exs_nil]), exs_nil]
        · rw [show (decide (t < m.length) == decide (a < m.length)) = false from by
            by_cases z : a < m.length
            · rw [decide_eq_true z, decide_eq_false (fun y => q ⟨fun _ => y, fun _ => z⟩)]; rfl
            · rw [decide_eq_false z, decide_eq_true (show t < m.length by
                by_cases y : t < m.length
                · exact y
                · exact absurd ⟨fun x => absurd x z, fun x => absurd x y⟩ q)]; rfl] at e2
          rw [decide_eq_true q]
          have hm : t ∈ crossers m w a := by rw [← crossers_eq]; exact List.mem_filter.mpr ⟨upto_mem.mpr ht, decide_eq_true q⟩
          have c1 := cross_of ha hm
          have c2 := cross_same hb hs hm
          have sw : ∀ {x y : Int}, Cross m w x y → Cross m w y x := fun c => c.symm
          have r2 := r.pre p hN (Nat.le_refl _) (Nat.le_refl _)
          have e3 := e_ne (t := decide (sgn m a t = sgn m b t)) (ev_callF (evL_cons (ev_var z57) (evL_cons (ev_var z54) (evL_1 (ev_var z61)))) (f_sgn n r2 L (sw c1))) (ev_callF (evL_cons (ev_var z57) (evL_cons (ev_var z55) (evL_1 (ev_var z61)))) (f_sgn n r2 L (sw c2))) (eqV_int _ _ _)
          refine ⟨fun y => ?_, fun y => ?_⟩
          · have y' : decide (sgn m a t = sgn m b t) = true := by simpa using y
            rw [y'] at e3
            refine ⟨_, h', ?_, p, ag1⟩
            show exs _ _ (upd σ' 61 (.int t)) h' = _
            rw [exs_next (by rw [ex_iteT e2, exs_next (by rw [ex_iteF e3, exs_nil]), exs_nil]), exs_nil]
          · have y' : decide (sgn m a t = sgn m b t) = false := by simpa using y
            rw [y'] at e3
            refine ⟨.ref h'.length, h' ++ [.list [.int t]], ?_, p.trans (List.prefix_append _ _), ⟨h'.length, [.int t], rfl, pre_len p, by simp, by simp, ⟨.int t, [], rfl, rfl, rfl⟩⟩⟩
            show exs _ _ (upd σ' 61 (.int t)) h' = _
            rw [exs_ret (by rw [ex_iteT e2, exs_ret (by rw [ex_iteT e3, exs_ret (ex_retv (ev_list (evL_1 (ev_var z61)) (show 1 ≤ 1000000 by decide)))])])]) (List.prefix_refl _)
    have es := evS_range1 (C := cx defs consts (n + 1)) (h := h) (ev_var s74) (by omega) (by omega)
    rw [← apart_find] at fN fS
    cases q : apartOf m w a b with
    | none =>
      obtain ⟨σ3, h3, e3, p3, _⟩ := fN q
      refine ⟨.ref h3.length, h3 ++ [.list [.none]], ?_, p3.trans (List.prefix_append _ _), rd_opt (o := none) (pre_len p3)⟩
      rw [exs_next (ex_for es e3), exs_ret (ex_retv (ev_list (evL_1 (by rw [ev])) (show 1 ≤ 1000000 by decide)))]
    | some k =>
      obtain ⟨u, h3, e3, p3, hu⟩ := fS k q
      refine ⟨u, h3, ?_, p3, hu⟩
      rw [exs_ret (by rw [ex, es]; simp only [cx_calm, if_true]; exact e3)]
  · rw [if_neg hs]
    rw [show (decide (a < m.length) == decide (b < m.length)) = false from by
      by_cases q : a < m.length
      · rw [decide_eq_true q, decide_eq_false (fun z => hs (by simp [q, z]))]; rfl
      · rw [decide_eq_false q, decide_eq_true (show b < m.length by
          by_cases z : b < m.length
          · exact z
          · exact absurd (by simp [q, z]) hs)]; rfl] at et
    exact ⟨.str "thread ", h, by rw [exs_ret (by rw [ex_iteT et, exs_ret (ex_retv (by rw [ev]))])], List.prefix_refl _, rfl⟩
end
end Mine

set_option autoImplicit false
set_option linter.unusedVariables false
set_option linter.unusedSimpArgs false
set_option maxRecDepth 100000
namespace Mine
open PySem

theorem PlOk.eq {rows fs : List (List Int)} {fd : List Int} (x : PlOk rows fs fd) {i j : Int} (hi : 0 ≤ i ∧ i < rows.length) (hj : 0 ≤ j ∧ j < rows.length) : getI fd i = getI fd j ↔ getR rows i = getR rows j := by
  obtain ⟨k, h1, h2⟩ := x.at_ _ _ (getR_mem hi.1 hi.2).2
  obtain ⟨l, h3, h4⟩ := x.at_ _ _ (getR_mem hj.1 hj.2).2
  have e1 : getI fd i = k := by unfold getI; rw [h1]; rfl
  have e2 : getI fd j = l := by unfold getI; rw [h3]; rfl
  rw [e1, e2]
  constructor
  · intro e
    have : k = l := by omega
    rw [this, h4] at h2; injection h2 with h2; exact h2.symm
  · intro e
    rw [← e] at h4
    have : k = l := (List.getElem?_inj (List.getElem?_eq_some_iff.mp h2).1 x.nod).mp (h2.trans h4.symm)
    omega

section
variable {w : Nat} {m : List (List Int)}
theorem row_ext (L : IsCl m w) {r s : List Int} (hr : r ∈ m) (hs : s ∈ m) : r = s ↔ ∀ k : Int, 0 ≤ k → k < w → getI r k = getI s k := by
  constructor
  · intro e _ _ _; rw [e]
  · intro e
    have l1 := (L.row _ hr).1
    have l2 := (L.row _ hs).1
    apply List.ext_getElem (by omega)
    intro i h1 h2
    have := e i (by omega) (by omega)
    rwa [getI_at h1, getI_at h2] at this
theorem col_ext {k l : Int} : (m.map fun r => getI r k) = (m.map fun r => getI r l) ↔ ∀ t : Int, 0 ≤ t → t < m.length → getI (getR m t) k = getI (getR m t) l := by
  rw [List.map_inj_left]
  constructor
  · intro e t h0 h1; exact e _ (getR_mem h0 h1).1
  · intro e r hr
    obtain ⟨i, hi, rfl⟩ := List.mem_iff_getElem.mp hr
    have := e i (by omega) (by omega)
    rwa [getR_at hi] at this

/-- two threads are apart, or of one shaft or treadle -/
theorem loom_eq (L : IsCl m w) {fs1 fs2 : List (List Int)} {fd1 fd2 : List Int} (P1 : PlOk (colsOf m w) fs1 fd1) (P2 : PlOk m fs2 fd2) {a b : Int} (ha : 0 ≤ a ∧ a < m.length + w) (hb : 0 ≤ b ∧ b < m.length + w) (hs : (a < m.length) = (b < m.length)) :
    getI (fd2 ++ fd1) a = getI (fd2 ++ fd1) b ↔ apartOf m w a b = none := by
  have l2 := P2.len
  have lc : (colsOf m w).length = w := by unfold colsOf; rw [List.length_map, upto_len]; omega
  have l1 := P1.len
  unfold apartOf
  rw [List.find?_eq_none]
  by_cases q : a < m.length
  · have q' : b < m.length := hs ▸ q
    have lo : ∀ {c : Int}, 0 ≤ c → c < m.length → getI (fd2 ++ fd1) c = getI fd2 c := fun h0 h1 => by
      unfold getI; rw [List.getElem?_append_left (by omega)]
    rw [lo ha.1 q, lo hb.1 q', P2.eq ⟨ha.1, q⟩ ⟨hb.1, q'⟩, row_ext L (getR_mem ha.1 q).1 (getR_mem hb.1 q').1]
    unfold crossers
    rw [if_pos q]
    have sg : ∀ {c t : Int}, c < m.length → (m.length : Int) ≤ t → sgn m c t = getI (getR m c) (t - m.length) := fun h0 h1 => by
      unfold sgn; rw [if_neg (by omega), if_pos (by omega)]
    constructor
    · intro e t ht
      have ht := fromTo_mem.mp ht
      rw [sg q ht.1, sg q' ht.1, e _ (by omega) (by omega)]; simp
    · intro e k h0 h1
      have := e (k + m.length) (fromTo_mem.mpr (by omega))
      rw [sg q (by omega), sg q' (by omega), show k + (m.length : Int) - m.length = k by omega] at this
      simpa using this
  · have q' : ¬ b < m.length := hs ▸ q
    have hi : ∀ {c : Int}, (m.length : Int) ≤ c → c < m.length + w → getI (fd2 ++ fd1) c = getI fd1 (c - m.length) := fun {c} h0 h1 => by
      unfold getI; rw [List.getElem?_append_right (by omega), show c.toNat - fd2.length = (c - m.length).toNat by omega]
    have gc : ∀ {c : Int}, (m.length : Int) ≤ c → c < m.length + w → getR (colsOf m w) (c - m.length) = m.map fun r => getI r (c - m.length) := fun h0 h1 => by
      unfold colsOf; rw [getR_upto (by omega) (by omega)]
    rw [hi (by omega) ha.2, hi (by omega) hb.2, P1.eq ⟨by omega, by omega⟩ ⟨by omega, by omega⟩, gc (by omega) ha.2, gc (by omega) hb.2, col_ext]
    unfold crossers
    rw [if_neg q]
    have sg : ∀ {c t : Int}, ¬ c < m.length → 0 ≤ t → t < m.length → sgn m c t = getI (getR m t) (c - m.length) := fun h0 h1 h2 => by
      unfold sgn; rw [if_pos (by omega), if_neg (by omega)]
    constructor
    · intro e t ht
      have ht := upto_mem.mp ht
      rw [sg q ht.1 ht.2, sg q' ht.1 ht.2, e _ ht.1 ht.2]; simp
    · intro e t h0 h1
      have := e t (upto_mem.mpr ⟨h0, h1⟩)
      rw [sg q h0 h1, sg q' h0 h1] at this
      simpa using this
end
end Mine

set_option autoImplicit false
set_option linter.unusedVariables false
set_option linter.unusedSimpArgs false
set_option maxRecDepth 100000
namespace Mine
open PySem

theorem tadd {C : Cx} {σ : Sto} {h h1 h2 : H} {x y : X} {i j : Nat} {xs ys : List V} (e1 : ev C x σ h = .ok (.ref i) h1) (e2 : ev C y σ h1 = .ok (.ref j) h2) (hi : h2[i]? = some (O.list xs)) (hj : h2[j]? = some (O.list ys)) (hb : xs.length + ys.length ≤ big) :
    ev C (.bin .Add x y) σ h = .ok (.ref h2.length) (h2 ++ [.list (xs ++ ys)]) := ev_bin e1 e2 (by
  simp only [binV, refOp, hi, hj, hb, if_true, Mine.alloc])

section
variable {w : Nat} {m : List (List Int)} {cl : V}
/-- one pair of threads -/
theorem turn09 {σ : Sto} {hp h : H} {M N t d b c : Nat} {u : V} {fs1 fs2 : List (List Int)} {fd1 fd2 : List Int} {x y : Int} (K : ∀ {h : H}, hp <+: h → Rd M N h (iLL m) cl) (hN : N ≤ hp.length) (L : IsCl m w) (p : hp <+: h)
    (hd : hp[d]? = some (O.tuple [.ref b, u, .ref c])) (hb1 : hp[b]? = some (O.list (fd1.map V.int))) (hc1 : hp[c]? = some (O.list (fd2.map V.int))) (P1 : PlOk (colsOf m w) fs1 fd1) (P2 : PlOk m fs2 fd2)
    (ht : h[t]? = some (O.tuple [.int x, .int y])) (hx : 0 ≤ x ∧ x < m.length + w) (hy : 0 ≤ y ∧ y < m.length + w) (s57 : σ 57 = some cl) (s80 : σ 80 = some (.ref t)) (s29 : σ 29 = some (.ref d)) :
    ∃ σ' h', exs (cx defs consts 39) [.assign 81 (.call 49 [(.var 57), (.sub (.var 80) (.int 0)), (.sub (.var 80) (.int 1))]), .assign 82 (.call 47 [(.var 57), (.sub (.var 80) (.int 0)), (.sub (.var 80) (.int 1))]), .ite (.bop .Or [(.cmp (.var 82) [.NotEq] [(.var 81)]), (.bop .And [(.isi (.var 82) .list), (.cmp (.var 82) [.NotEq] [(.list [.none])]), (.not (.call 10 [(.sub (.var 82) (.int 0))]))])]) [.ret (.bool false)] [], .ite (.isi (.var 81) .list) [.assign 35 (.bin .Add (.sub (.var 29) (.int 2)) (.sub (.var 29) (.int 0))), .ite (.cmp (.cmp (.sub (.var 35) (.sub (.var 80) (.int 0))) [.Eq] [(.sub (.var 35) (.sub (.var 80) (.int 1)))]) [.NotEq] [(.cmp (.var 81) [.Eq] [(.list [.none])])]) [.ret (.bool false)] []] []] σ h
      = .next σ' h' ∧ h <+: h' ∧ Agr [81, 82, 35] σ σ' := by
  have hl := L.len
  have hw := L.wid
  have p0 : ∀ {σ' : Sto} {h' : H}, h <+: h' → σ' 80 = some (.ref t) → ev (cx defs consts 39) (.sub (.var 80) (.int 0)) σ' h' = .ok (.int x) h' := fun q s => ev_subL (ev_var s) (ev_int 0) (.inr (pre_get q ht)) (show 2 ≤ 1000000 by decide) (Int.le_refl 0) rfl
  have p1 : ∀ {σ' : Sto} {h' : H}, h <+: h' → σ' 80 = some (.ref t) → ev (cx defs consts 39) (.sub (.var 80) (.int 1)) σ' h' = .ok (.int y) h' := fun q s => ev_subL (ev_var s) (ev_int 1) (.inr (pre_get q ht)) (show 2 ≤ 1000000 by decide) (by decide) rfl
  have pr := List.prefix_refl h
  obtain ⟨du, h1, e1, q1, r1⟩ := f_due09 37 (K p) (Nat.le_trans hN (pre_len p)) L hx hy
  have e1 : Fn defs consts 39 49 [cl, .int x, .int y] h = .ok du h1 := e1
  have pq1 := p.trans q1
  obtain ⟨to, h2, e2, q2, r2⟩ := f_told09 33 (K pq1) (Nat.le_trans hN (pre_len pq1)) L hx hy
  have e2 : Fn defs consts 39 47 [cl, .int x, .int y] h1 = .ok to h2 := e2
  have r1' : Rd h.length h1.length h2 (due9 m w x y) du := r1.pre q2 (Nat.le_refl _) (Nat.le_refl _) (Nat.le_refl _)
  rw [exs_next (ex_assign (ev_callF (evL_cons (ev_var s57) (evL_cons (p0 pr s80) (evL_1 (p1 pr s80)))) e1))]
  have t80 : (upd σ 81 du) 80 = some (.ref t) := s80
  rw [exs_next (ex_assign (ev_callF (evL_cons (ev_var (i := 57) (v := cl) (by exact s57)) (evL_cons (p0 q1 t80) (evL_1 (p1 q1 t80)))) e2))]
  have agr : ∀ {v : V}, Agr [81, 82, 35] σ (upd (upd (upd σ 81 du) 82 to) 35 v) := (((Agr.refl _ _).upd (by decide)).upd (by decide)).upd (by decide)
  have agr0 : Agr [81, 82, 35] σ (upd (upd σ 81 du) 82 to) := ((Agr.refl _ _).upd (by decide)).upd (by decide)
  generalize hσ : upd (upd σ 81 du) 82 to = σ1 at agr agr0
  have z29 : σ1 29 = some (.ref d) := by rw [← hσ]; exact s29
  have z80 : σ1 80 = some (.ref t) := by rw [← hσ]; exact s80
  have z81 : σ1 81 = some du := by rw [← hσ]; rfl
  have z82 : σ1 82 = some to := by rw [← hσ]; rfl
  clear hσ
  have q12 := q1.trans q2
  by_cases hs : (x < m.length) = (y < m.length)
  · unfold due9 at r1' r2
    rw [if_pos hs] at r1' r2
    have lo : ∀ o : Option Int, dep (.list [optD o]) ≤ 6 := fun o => by cases o <;> simp [dep, depL, optD]
    have cy : ∀ o : Option Int, PyData.canLay0 (.list [optD o]) = true := fun o => by cases o <;> simp [PyData.canLay0, PyData.canLayAll0, optD]
    have n1 := e_ne (t := true) (C := cx defs consts 39) (ev_var z82) (ev_var z81) (same_rd r2 r1' (lo _) (cy _))
    obtain ⟨at_, us, hto, _, _, hat, hus⟩ := r2
    obtain ⟨u0, us', hu1, hu2, hu3⟩ := hus
    have hu3' : us' = [] := hu3
    subst hu3' hu1 hto
    have hu0 : u0 = optV (apartOf m w x y) := by revert hu2; cases apartOf m w x y <;> exact fun z => z
    subst hu0
    have p3 : h2 <+: h2 ++ [O.list [.none]] := List.prefix_append _ _
    have rn : ∀ {h2 : H}, Rd 0 (h2 ++ [O.list [V.none]]).length (h2 ++ [O.list [V.none]]) (.list [.none]) (.ref h2.length) := fun {h2} => (rd_opt (o := none) (Nat.zero_le _))
    have r3 : Rd 0 h2.length h2 (.list [optD (apartOf m w x y)]) (.ref at_) := ⟨at_, _, rfl, Nat.zero_le _, (List.getElem?_eq_some_iff.mp hat).1, hat, ⟨_, [], rfl, hu2.wide (Nat.zero_le _) (Nat.le_refl _), rfl⟩⟩
    have lnone : ∀ {h2 : H} {σ' : Sto}, ev (cx defs consts 39) (.list [.none]) σ' h2 = .ok (.ref h2.length) (h2 ++ [O.list [.none]]) := ev_list (evL_1 (by rw [ev])) (show 1 ≤ 1000000 by decide)
    have eqn : ∀ {h : H} {r : V} {M N : Nat}, Rd M N h (.list [optD (apartOf m w x y)]) r → N ≤ h.length → eqV (h ++ [O.list [.none]]) r (.ref h.length) = some (apartOf m w x y).isNone := fun {h r M N} rr hN' => by
      rw [eqV_rd (rr.pre (List.prefix_append _ _) hN' (Nat.le_refl _) (Nat.le_refl _)) rn (lo _) (by decide) (cy _) (by simp [PyData.canLay0, PyData.canLayAll0])]
      cases apartOf m w x y <;> simp [PyData.eqv, PyData.eqvAll, optD]
    have n2 := e_ne (t := (apartOf m w x y).isNone) (C := cx defs consts 39) (ev_var z82) lnone (eqn r3 (Nat.le_refl _))
    have big1 : ([optV (apartOf m w x y)] : List V).length ≤ big := (show 1 ≤ 1000000 by decide)
    have en : ∃ h3, h2 <+: h3 ∧ ev (cx defs consts 39) (.bop .Or [(.cmp (.var 82) [.NotEq] [(.var 81)]), (.bop .And [(.isi (.var 82) .list), (.cmp (.var 82) [.NotEq] [(.list [.none])]), (.not (.call 10 [(.sub (.var 82) (.int 0))]))])]) σ1 h2 = .ok (.bool false) h3 := by
      refine ⟨_, p3, ?_⟩
      cases q : apartOf m w x y with
      | none =>
        rw [q] at n2
        exact ev_bop.trans ((orF n1).trans (b_one.trans (ev_bop.trans ((andT (ev_isList (ev_var z82) hat)).trans (andF n2)))))
      | some k =>
        rw [q] at n2 hat
        have ei := ev_callF (n := 39) (evL_1 (ev_subL (ev_var z82) (ev_int 0) (.inl (pre_get p3 hat)) (show 1 ≤ 1000000 by decide) (Int.le_refl 0) (v := .int k) rfl)) (f_isint 38 k)
        exact ev_bop.trans ((orF n1).trans (b_one.trans (ev_bop.trans ((andT (ev_isList (ev_var z82) hat)).trans ((andT n2).trans (b_one.trans (ev_not (b := true) ei)))))))
    obtain ⟨h3, p3', en⟩ := en
    have q13 := q12.trans p3'
    rw [exs_next (by rw [ex_iteF en, exs_nil])]
    -- the loom says so too
    obtain ⟨ad, us, hdu, _, had2, had, _⟩ := r1'
    subst hdu
    have hd3 := pre_get (p.trans q13) hd
    have g2 : ev (cx defs consts 39) (.sub (.var 29) (.int 2)) σ1 h3 = .ok (.ref c) h3 := ev_subL (ev_var z29) (ev_int 2) (.inr hd3) (show 3 ≤ 1000000 by decide) (by decide) rfl
    have g0 : ev (cx defs consts 39) (.sub (.var 29) (.int 0)) σ1 h3 = .ok (.ref b) h3 := ev_subL (ev_var z29) (ev_int 0) (.inr hd3) (show 3 ≤ 1000000 by decide) (by decide) rfl
    have l1 := P1.len
    have l2 := P2.len
    have lc : (colsOf m w).length = w := by unfold colsOf; rw [List.length_map, upto_len]; omega
    have lf : (fd2 ++ fd1).length = m.length + w := by rw [List.length_append, l1, l2, lc]
    have ea := tadd g2 g0 (pre_get (p.trans q13) hc1) (pre_get (p.trans q13) hb1) (by rw [List.length_map, List.length_map]; unfold big; omega)
    rw [← List.map_append] at ea
    have p4 : h3 <+: h3 ++ [O.list ((fd2 ++ fd1).map V.int)] := List.prefix_append _ _
    have k4 : (h3 ++ [O.list ((fd2 ++ fd1).map V.int)])[h3.length]? = some (O.list ((fd2 ++ fd1).map V.int)) := by simp
    generalize h3 ++ [O.list ((fd2 ++ fd1).map V.int)] = h4 at ea p4 k4
    have q14 := q13.trans p4
    have gi : ∀ {k : Int}, 0 ≤ k → k < m.length + w → ((fd2 ++ fd1).map V.int)[k.toNat]? = some (.int (getI (fd2 ++ fd1) k)) := fun h0 h1 => by rw [List.getElem?_map, (getI_mem h0 (by rw [lf]; omega)).2]; rfl
    have y80 : (upd σ1 35 (.ref h3.length)) 80 = some (.ref t) := z80
    have y81 : (upd σ1 35 (.ref h3.length)) 81 = some (.ref ad) := z81
    have y35 : (upd σ1 35 (.ref h3.length)) 35 = some (.ref h3.length) := rfl
    have bb : ((fd2 ++ fd1).map V.int).length ≤ big := by rw [List.length_map, lf]; unfold big; omega
    have c1 := i_eq (ev_subL (ev_var y35) (p0 q14 y80) (.inl k4) bb hx.1 (gi hx.1 hx.2)) (ev_subL (ev_var y35) (p1 q14 y80) (.inl k4) bb hy.1 (gi hy.1 hy.2))
    have r4 : Rd h.length h1.length h4 (.list [optD (apartOf m w x y)]) (.ref ad) := by
      have r1' : Rd h.length h1.length h1 (.list [optD (apartOf m w x y)]) (.ref ad) := by
        have := r1; unfold due9 at this; rwa [if_pos hs] at this
      exact r1'.pre (q2.trans (p3'.trans p4)) (Nat.le_refl _) (Nat.le_refl _) (Nat.le_refl _)
    have c2 := e_eq (C := cx defs consts 39) (ev_var y81) lnone (eqn r4 (pre_len (q2.trans (p3'.trans p4))))
    have hq : decide (getI (fd2 ++ fd1) x = getI (fd2 ++ fd1) y) = (apartOf m w x y).isNone := by
      have := loom_eq L P1 P2 hx hy hs
      cases q : apartOf m w x y with
      | none => exact decide_eq_true (this.mpr q)
      | some k => exact decide_eq_false (fun z => by rw [q] at this; cases this.mp z)
    rw [hq] at c1
    have c3 := e_ne (t := true) c1 c2 (by rw [eqV_bool]; simp)
    refine ⟨upd σ1 35 (.ref h3.length), h4 ++ [O.list [.none]], ?_, q14.trans (List.prefix_append _ _), agr⟩
    rw [exs_next (by rw [ex_iteT (ev_isList (ev_var z81) (pre_get p3' had)), exs_next (ex_assign ea), exs_next (by rw [ex_iteF c3, exs_nil]), exs_nil]), exs_nil]
  · unfold due9 at r1' r2
    rw [if_neg hs] at r1' r2
    have hdu : du = .str "thread " := r1'
    have hto : to = .str "thread " := r2
    subst hdu hto
    have n1 := e_ne (t := true) (C := cx defs consts 39) (ev_var z82) (ev_var z81) (h2 := h2) (same_rd (M := 0) (N := 0) (M' := 0) (N' := 0) (d := .str "thread ") rfl rfl (by decide) (by decide +kernel))
    refine ⟨σ1, h2, ?_, q12, agr0⟩
    rw [exs_next (σ' := σ1) (h' := h2) (by rw [ex_iteF (ev_bop.trans ((orF n1).trans (b_one.trans (ev_bop.trans (andF (h1 := h2) (by rw [ev, ev_var z82]; rfl)))))), exs_nil]),
      exs_next (σ' := σ1) (h' := h2) (by rw [ex_iteF (h' := h2) (by rw [ev, ev_var z81]; rfl), exs_nil]), exs_nil]
end
end Mine

set_option autoImplicit false
set_option linter.unusedVariables false
set_option linter.unusedSimpArgs false
set_option maxRecDepth 100000
namespace Mine
open PySem

theorem ev_pair {C : Cx} {σ : Sto} {h : H} {x y : X} {a b : Int} (e1 : ev C x σ h = .ok (.int a) h) (e2 : ev C y σ h = .ok (.int b) h) : ev C (.tup [x, y]) σ h = .ok (.ref h.length) (h ++ [.tuple [.int a, .int b]]) := ev_tuple (evL_cons e1 (evL_1 e2)) (show 2 ≤ 1000000 by decide)

/-- the four pairs of a thread -/
theorem body09 {σ : Sto} {w M N d b c : Nat} {m : List (List Int)} {cl u : V} {hp h : H} {xs : List Int} {fs1 fs2 : List (List Int)} {fd1 fd2 : List Int} {t : Int} (K : ∀ {h : H}, hp <+: h → Rd M N h (iLL m) cl) (hN : N ≤ hp.length) (L : IsCl m w) (p : hp <+: h)
    (hd : hp[d]? = some (O.tuple [.ref b, u, .ref c])) (hb1 : hp[b]? = some (O.list (fd1.map V.int))) (hc1 : hp[c]? = some (O.list (fd2.map V.int))) (P1 : PlOk (colsOf m w) fs1 fd1) (P2 : PlOk m fs2 fd2)
    (ec : ∀ {σ : Sto} {h : H}, σ 13 = some (.ref 0) → hp <+: h → ev (cx defs consts 39) (.call 6 [.var 13, .int 1]) σ h = .ok (.int (cell xs 1)) h)
    (ht : 0 ≤ t ∧ t < m.length + w) (s13 : σ 13 = some (.ref 0)) (s57 : σ 57 = some cl) (s54 : σ 54 = some (.int t)) (s74 : σ 74 = some (.int (m.length + w))) (s29 : σ 29 = some (.ref d)) :
    ∃ σ' h', exs (cx defs consts 39) [.assign 55 (.bin .Mod (.bin .Add (.var 54) (.call 6 [(.var 13), (.int 1)])) (.var 74)), .for 80 (.val (.list [(.tup [(.var 54), (.var 55)]), (.tup [(.var 55), (.var 54)]), (.tup [(.var 54), (.var 54)]), (.tup [(.var 54), (.bin .Mod (.bin .Add (.var 54) (.int 1)) (.var 74))])])) [.assign 81 (.call 49 [(.var 57), (.sub (.var 80) (.int 0)), (.sub (.var 80) (.int 1))]), .assign 82 (.call 47 [(.var 57), (.sub (.var 80) (.int 0)), (.sub (.var 80) (.int 1))]), .ite (.bop .Or [(.cmp (.var 82) [.NotEq] [(.var 81)]), (.bop .And [(.isi (.var 82) .list), (.cmp (.var 82) [.NotEq] [(.list [.none])]), (.not (.call 10 [(.sub (.var 82) (.int 0))]))])]) [.ret (.bool false)] [], .ite (.isi (.var 81) .list) [.assign 35 (.bin .Add (.sub (.var 29) (.int 2)) (.sub (.var 29) (.int 0))), .ite (.cmp (.cmp (.sub (.var 35) (.sub (.var 80) (.int 0))) [.Eq] [(.sub (.var 35) (.sub (.var 80) (.int 1)))]) [.NotEq] [(.cmp (.var 81) [.Eq] [(.list [.none])])]) [.ret (.bool false)] []] []]] σ h
      = .next σ' h' ∧ hp <+: h' ∧ Agr [55, 80, 81, 82, 35] σ σ' := by
  have hl := L.len
  have hw := L.wid
  rw [exs_next (ex_assign (i_mod (i_add (ev_var s54) (ec s13 p)) (ev_var s74) (by omega)))]
  have ho : 0 ≤ (t + cell xs 1) % ((m.length : Int) + w) ∧ (t + cell xs 1) % ((m.length : Int) + w) < m.length + w := ⟨Int.emod_nonneg _ (by omega), Int.emod_lt_of_pos _ (by omega)⟩
  generalize (t + cell xs 1) % ((m.length : Int) + w) = o at ho ⊢
  have hn : 0 ≤ (t + 1) % ((m.length : Int) + w) ∧ (t + 1) % ((m.length : Int) + w) < m.length + w := ⟨Int.emod_nonneg _ (by omega), Int.emod_lt_of_pos _ (by omega)⟩
  have en : ∀ {h : H}, ev (cx defs consts 39) (.bin .Mod (.bin .Add (.var 54) (.int 1)) (.var 74)) (upd σ 55 (.int o)) h = .ok (.int ((t + 1) % ((m.length : Int) + w))) h := i_mod (i_add (ev_var (i := 54) (v := .int t) (by exact s54)) (ev_int 1)) (ev_var (i := 74) (v := .int (m.length + w)) (by exact s74)) (by omega)
  generalize (t + 1) % ((m.length : Int) + w) = o' at hn en
  have v54 : ∀ {h : H}, ev (cx defs consts 39) (.var 54) (upd σ 55 (.int o)) h = .ok (.int t) h := ev_var (by exact s54)
  have v55 : ∀ {h : H}, ev (cx defs consts 39) (.var 55) (upd σ 55 (.int o)) h = .ok (.int o) h := ev_var rfl
  have e1 := ev_pair (h := h) v54 v55
  have k1 : (h ++ [O.tuple [.int t, .int o]])[h.length]? = some (O.tuple [.int t, .int o]) := by simp
  have p1 : h <+: h ++ [O.tuple [.int t, .int o]] := List.prefix_append _ _
  generalize h ++ [O.tuple [.int t, .int o]] = h1 at e1 k1 p1
  have e2 := ev_pair (h := h1) v55 v54
  have k2 : (h1 ++ [O.tuple [.int o, .int t]])[h1.length]? = some (O.tuple [.int o, .int t]) := by simp
  have p2 : h1 <+: h1 ++ [O.tuple [.int o, .int t]] := List.prefix_append _ _
  generalize h1 ++ [O.tuple [.int o, .int t]] = h2 at e2 k2 p2
  have e3 := ev_pair (h := h2) v54 v54
  have k3 : (h2 ++ [O.tuple [.int t, .int t]])[h2.length]? = some (O.tuple [.int t, .int t]) := by simp
  have p3 : h2 <+: h2 ++ [O.tuple [.int t, .int t]] := List.prefix_append _ _
  generalize h2 ++ [O.tuple [.int t, .int t]] = h3 at e3 k3 p3
  have e4 := ev_pair (h := h3) v54 en
  have k4 : (h3 ++ [O.tuple [.int t, .int o']])[h3.length]? = some (O.tuple [.int t, .int o']) := by simp
  have p4 : h3 <+: h3 ++ [O.tuple [.int t, .int o']] := List.prefix_append _ _
  generalize h3 ++ [O.tuple [.int t, .int o']] = h4 at e4 k4 p4
  have e5 := ev_list (evL_cons e1 (evL_cons e2 (evL_cons e3 (evL_1 e4)))) (show 4 ≤ 1000000 by decide)
  have k5 : (h4 ++ [O.list [.ref h.length, .ref h1.length, .ref h2.length, .ref h3.length]])[h4.length]? = some (O.list [.ref h.length, .ref h1.length, .ref h2.length, .ref h3.length]) := by simp
  have p5 : h4 <+: h4 ++ [O.list [.ref h.length, .ref h1.length, .ref h2.length, .ref h3.length]] := List.prefix_append _ _
  generalize h4 ++ [O.list [V.ref h.length, .ref h1.length, .ref h2.length, .ref h3.length]] = h5 at e5 k5 p5
  have q5 := p.trans (p1.trans (p2.trans (p3.trans (p4.trans p5))))
  obtain ⟨σ6, h6, e6, p6, ag6⟩ := forR_inv (α := Nat × Int × Int) (src := ⟨[.ref h.length, .ref h1.length, .ref h2.length, .ref h3.length], some (h4.length, .list [.ref h.length, .ref h1.length, .ref h2.length, .ref h3.length])⟩) (body := fun x σ1 h2 => exs (cx defs consts 39) [.assign 81 (.call 49 [(.var 57), (.sub (.var 80) (.int 0)), (.sub (.var 80) (.int 1))]), .assign 82 (.call 47 [(.var 57), (.sub (.var 80) (.int 0)), (.sub (.var 80) (.int 1))]), .ite (.bop .Or [(.cmp (.var 82) [.NotEq] [(.var 81)]), (.bop .And [(.isi (.var 82) .list), (.cmp (.var 82) [.NotEq] [(.list [.none])]), (.not (.call 10 [(.sub (.var 82) (.int 0))]))])]) [.ret (.bool false)] [], .ite (.isi (.var 81) .list) [.assign 35 (.bin .Add (.sub (.var 29) (.int 2)) (.sub (.var 29) (.int 0))), .ite (.cmp (.cmp (.sub (.var 35) (.sub (.var 80) (.int 0))) [.Eq] [(.sub (.var 35) (.sub (.var 80) (.int 1)))]) [.NotEq] [(.cmp (.var 81) [.Eq] [(.list [.none])])]) [.ret (.bool false)] []] []] (upd σ1 80 x) h2)
    (fun _ σ1 h' => h5 <+: h' ∧ Agr [80, 81, 82, 35] (upd σ 55 (.int o)) σ1) (fun _ _ _ x => pre_get x.1 k5) [(.ref h.length, (h.length, t, o)), (.ref h1.length, (h1.length, o, t)), (.ref h2.length, (h2.length, t, t)), (.ref h3.length, (h3.length, t, o'))] (upd σ 55 (.int o)) h5
    (fun q hq as σ1 h' ⟨p', ag⟩ => by
      have ag1 : Agr [80, 81, 82, 35] (upd σ 55 (.int o)) (upd σ1 80 q.1) := ag.upd (by decide)
      have key : ∃ x y : Int, ∃ tt : Nat, q.1 = .ref tt ∧ h5[tt]? = some (O.tuple [.int x, .int y]) ∧ (0 ≤ x ∧ x < m.length + w) ∧ (0 ≤ y ∧ y < m.length + w) := by
        simp only [List.mem_cons, List.not_mem_nil, or_false] at hq
        rcases hq with rfl | rfl | rfl | rfl
        · exact ⟨t, o, h.length, rfl, pre_get (p2.trans (p3.trans (p4.trans p5))) k1, ht, ho⟩
        · exact ⟨o, t, h1.length, rfl, pre_get (p3.trans (p4.trans p5)) k2, ho, ht⟩
        · exact ⟨t, t, h2.length, rfl, pre_get (p4.trans p5) k3, ht, ht⟩
        · exact ⟨t, o', h3.length, rfl, pre_get p5 k4, ht, hn⟩
      obtain ⟨x, y, tt, hq1, htt, hx, hy⟩ := key
      obtain ⟨σ2, h2', e', p2', ag'⟩ := turn09 (σ := upd σ1 80 q.1) (hp := hp) (h := h') K hN L (q5.trans p') hd hb1 hc1 P1 P2 (pre_get p' htt) hx hy (by rw [ag1 57 (by decide)]; exact s57) (by rw [hq1]; rfl) (by rw [ag1 29 (by decide)]; exact s29)
      exact ⟨σ2, h2', e', p'.trans p2', ag1.trans (ag'.wide (by decide))⟩)
    ⟨List.prefix_refl _, Agr.refl _ _⟩
  refine ⟨σ6, h6, ?_, q5.trans p6, ?_⟩
  · rw [exs_next (ex_for (evS_list e5 k5) e6), exs_nil]
  · exact Agr.trans ((Agr.refl _ _).upd (by decide)) (ag6.wide (by decide))

theorem law09 (xs : List Int) (hx : xs.length ≤ 63) : ∃ H', Fn defs consts 40 50 [.ref 0] [O.frozen (xs.map V.int)] = .ok (.bool true) H' := by
  rw [fn_at (d := d_law_09) rfl]
  simp only [runDef, d_law_09, List.length_cons, List.length_nil, if_true]
  obtain ⟨cl, h1, m, w, e1, p1, L, r1⟩ := f_clothby 36 (h := [O.frozen (xs.map V.int)]) hx rfl (at_ := 2) (by decide)
  obtain ⟨kp, h2, e2, p2, r2⟩ := ev_clothCopy (C := cx defs consts 39) (σ := upd (updL noSto [13] [V.ref 0]) 57 cl) (s := 35) (ev_var (i := 57) (v := cl) rfl) r1 (Nat.le_refl _) L
  have hl := L.len
  have hw := L.wid
  have l2 := pre_len p2
  have F0 : ∀ {h : H}, h2 <+: h → h[0]? = some (O.frozen (xs.map V.int)) := fun p => pre_get ((p1.trans p2).trans p) rfl
  have K57 : ∀ {h : H}, h2 <+: h → Rd 0 h2.length h (iLL m) cl := fun p => r1.pre (p2.trans p) (Nat.le_refl _) (Nat.zero_le _) l2
  have K31 : ∀ {h : H}, h2 <+: h → Rd 0 h2.length h (iLL m) kp := fun p => r2.pre p (Nat.le_refl _) (Nat.zero_le _) (Nat.le_refl _)
  have pr2 := List.prefix_refl h2
  have ec : ∀ {σ : Sto} {h : H} {k : Int}, σ 13 = some (.ref 0) → h2 <+: h → 0 ≤ k → ev (cx defs consts 39) (.call 6 [.var 13, .int k]) σ h = .ok (.int (cell xs k)) h := fun q p hk =>
    ev_callF (evL_cons (ev_var q) (evL_1 (ev_int _))) (f_cell 38 hx (F0 p) hk)
  obtain ⟨d, b, c, tt, h3, fs1, fd1, fs2, fd2, e3, p3, gd, hd, gb, hb, gc, hc, _, P1, P2⟩ := f_loomof 34 (K57 pr2) (Nat.le_refl _) L
  have e1 : Fn defs consts 39 25 [.ref 0, .int 2] [O.frozen (xs.map V.int)] = .ok cl h1 := e1
  have e3 : Fn defs consts 39 22 [cl] h2 = .ok (.ref d) h3 := e3
  rw [exs_next (ex_assign (ev_callF (evL_cons (ev_var (i := 13) (v := .ref 0) rfl) (evL_1 (ev_int 2))) e1)), exs_next (ex_assign e2),
    exs_next (ex_assign (cl_len (v := cl) rfl (K57 pr2) L)), exs_next (ex_assign (i_add (ev_var (i := 21) (v := .int m.length) rfl) (cl_wid (v := cl) rfl (K57 pr2) L))),
    exs_next (ex_assign (ev_callF (evL_1 (ev_var (i := 57) (v := cl) rfl)) e3))]
  generalize hσ : upd (upd (upd (upd (upd (updL noSto [13] [V.ref 0]) 57 cl) 31 kp) 21 (V.int (m.length : Int))) 74 (V.int ((m.length : Int) + (w : Int)))) 29 (V.ref d) = σ1
  have s13 : σ1 13 = some (.ref 0) := by rw [← hσ]; rfl
  have s57 : σ1 57 = some cl := by rw [← hσ]; rfl
  have s31 : σ1 31 = some kp := by rw [← hσ]; rfl
  have s74 : σ1 74 = some (.int (m.length + w)) := by rw [← hσ]; rfl
  have s29 : σ1 29 = some (.ref d) := by rw [← hσ]; rfl
  clear hσ e1 e2 e3
  -- the threads gone over
  obtain ⟨σ2, h4, cc, js, e4, p4, s62, hcc, hj, ag2⟩ : ∃ σ2 h4 c, ∃ js : List Int, exs (cx defs consts 39) [.assign 62 (.lrange [(.var 74)]), .ite (.cmp (.var 74) [.Gt] [(.int 12)]) [.assign 62 (.slice 62 (.bin .Mod (.call 6 [(.var 13), (.int 1)]) (.int 4)) .none (.int 4))] []] σ1 h3 = .next σ2 h4 ∧ h3 <+: h4 ∧ σ2 62 = some (.ref c) ∧ h4[c]? = some (O.list (js.map V.int)) ∧ (∀ j ∈ js, j ∈ upto (m.length + w)) ∧ Agr [62] σ1 σ2 := by
    rw [exs_next (ex_assign (ev_lrange1 (ev_var s74) (by omega) (by omega)))]
    have p4 : h3 <+: h3 ++ [O.list ((upto (m.length + w)).map V.int)] := List.prefix_append _ _
    have hc : (h3 ++ [O.list ((upto (m.length + w)).map V.int)])[h3.length]? = some (O.list ((upto (m.length + w)).map V.int)) := by simp
    generalize h3 ++ [O.list ((upto (m.length + w)).map V.int)] = h4 at p4 hc ⊢
    have z74 : (upd σ1 62 (.ref h3.length)) 74 = some (.int (m.length + w)) := s74
    have z13 : (upd σ1 62 (.ref h3.length)) 13 = some (.ref 0) := s13
    have et := i_gt (C := cx defs consts 39) (h := h4) (ev_var z74) (ev_int 12)
    by_cases q : (12 : Int) < m.length + w
    · rw [decide_eq_true q] at et
      obtain ⟨js, es, hj⟩ := ev_slice (C := cx defs consts 39) (σ := upd σ1 62 (.ref h3.length)) (h := h4) (s := 62) rfl hc (by rw [upto_len]; unfold big; omega) (i_mod (ec (k := 1) z13 (p3.trans p4) (by decide)) (ev_int 4) (by decide)) (ev_int 4) (by decide)
      exact ⟨_, _, h4.length, js, by rw [exs_next (by rw [ex_iteT et, exs_next (ex_assign es), exs_nil]), exs_nil], p4.trans (List.prefix_append _ _), rfl, by simp, hj, ((Agr.refl _ _).upd (by decide)).upd (by decide)⟩
    · rw [decide_eq_false q] at et
      exact ⟨_, h4, h3.length, _, by rw [exs_next (by rw [ex_iteF et, exs_nil]), exs_nil], p4, rfl, hc, fun _ z => z, (Agr.refl _ _).upd (by decide)⟩
  have q4 := p3.trans p4
  have s13 : σ2 13 = some (.ref 0) := by rw [ag2 13 (by decide)]; exact s13
  have s57 : σ2 57 = some cl := by rw [ag2 57 (by decide)]; exact s57
  have s31 : σ2 31 = some kp := by rw [ag2 31 (by decide)]; exact s31
  have s74 : σ2 74 = some (.int (m.length + w)) := by rw [ag2 74 (by decide)]; exact s74
  have s29 : σ2 29 = some (.ref d) := by rw [ag2 29 (by decide)]; exact s29
  rw [exs_two e4]
  clear e4 ag2
  obtain ⟨σ3, h5, e5, p5, ag3⟩ := forR_inv (src := ⟨js.map V.int, some (cc, .list (js.map V.int))⟩) (body := fun x σ1 h2 => exs (cx defs consts 39) _ (upd σ1 54 x) h2) (fun _ σ h => h4 <+: h ∧ Agr [54, 55, 80, 81, 82, 35] σ2 σ) (fun _ _ _ x => pre_get x.1 hcc) (intPairs js) σ2 h4
    (fun q hq as σ h ⟨p, ag⟩ => by
      obtain ⟨hk, hq⟩ := intPairs_mem hq
      have ag1 : Agr [54, 55, 80, 81, 82, 35] σ2 (upd σ 54 q.1) := ag.upd (by decide)
      obtain ⟨σ', h', e', p', ag'⟩ := body09 (σ := upd σ 54 q.1) (hp := h4) (h := h) (t := q.2) (xs := xs) (fun p => K57 (q4.trans p)) (pre_len q4) L p (pre_get p4 hd) (pre_get p4 hb) (pre_get p4 hc) P1 P2 (fun s p => ec s (q4.trans p) (by decide)) (upto_mem.mp (hj _ hk)) (by rw [ag1 13 (by decide)]; exact s13) (by rw [ag1 57 (by decide)]; exact s57) (by rw [hq]; rfl) (by rw [ag1 74 (by decide)]; exact s74) (by rw [ag1 29 (by decide)]; exact s29)
      exact ⟨σ', h', e', p', ag1.trans (ag'.wide (by decide))⟩)
    ⟨List.prefix_refl _, Agr.refl _ _⟩
  rw [intPairs_1] at e5
  rw [exs_next (ex_for (evS_list (ev_var s62) hcc) e5)]
  have q5 := q4.trans p5
  have s13 : σ3 13 = some (.ref 0) := by rw [ag3 13 (by decide)]; exact s13
  have s57 : σ3 57 = some cl := by rw [ag3 57 (by decide)]; exact s57
  have s31 : σ3 31 = some kp := by rw [ag3 31 (by decide)]; exact s31
  have s74 : σ3 74 = some (.int (m.length + w)) := by rw [ag3 74 (by decide)]; exact s74
  clear e5 ag3 s62 hcc hj
  rw [exs_next (ex_assign (ec s13 q5 (Int.le_refl 0)))]
  obtain ⟨od, h6, e6, p6, o6⟩ := ev_bad (n := 39) (m := m) (w := w) (σ := upd σ3 17 (.int (cell xs 0))) (h := h5) (by exact s74) rfl
  have q6 := q5.trans p6
  rw [exs_next (ex_assign e6)]
  generalize hσ : upd (upd σ3 17 (.int (cell xs 0))) 76 od = σ5
  have z57 : σ5 57 = some cl := by rw [← hσ]; exact s57
  have z31 : σ5 31 = some kp := by rw [← hσ]; exact s31
  have z76 : σ5 76 = some od := by rw [← hσ]; rfl
  have z74 : σ5 74 = some (.int (m.length + w)) := by rw [← hσ]; exact s74
  clear hσ
  obtain ⟨hJ, eJ, pJ⟩ := f_told09Bad 33 (y := .int 0) (K57 q6) (pre_len q6) L (.inl o6)
  have eJ : Fn defs consts 39 47 [cl, od, .int 0] h6 = .ok (.str "thread ") hJ := eJ
  have qJ := q6.trans pJ
  obtain ⟨hK, eK, pK⟩ := f_told09Bad 33 (x := .int (m.length + w - 1)) (K57 qJ) (pre_len qJ) L (.inr ⟨⟨_, rfl, by omega⟩, o6.pre pJ⟩)
  have eK : Fn defs consts 39 47 [cl, .int (m.length + w - 1), od] hJ = .ok (.str "thread ") hK := eK
  have qK := qJ.trans pK
  obtain ⟨hM, eM, pM⟩ := f_told09Bad 33 (y := od) (K57 qK) (pre_len qK) L (.inl (o6.pre (pJ.trans pK)))
  have eM : Fn defs consts 39 47 [cl, od, od] hK = .ok (.str "thread ") hM := eM
  have qM := qK.trans pM
  have ecnt : ∀ {h : H}, eqV h (.str "thread ") (.str "thread ") = some true := same_rd (M := 0) (N := 0) (M' := 0) (N' := 0) (d := .str "thread ") rfl rfl (by decide) (by decide +kernel)
  have estr : ∀ {h : H}, ev (cx defs consts 39) (.str "thread ") σ5 h = .ok (.str "thread ") h := fun {h} => by rw [ev]
  rw [exs_next (σ' := σ5) (h' := hK) (by
    rw [ex_iteF (ev_bop.trans ((orF (e_ne (t := true) (ev_callF (evL_cons (ev_var z57) (evL_cons (ev_var z76) (evL_1 (ev_int 0)))) eJ) estr ecnt)).trans (b_one.trans (e_ne (t := true) (ev_callF (evL_cons (ev_var z57) (evL_cons (i_sub (ev_var z74) (ev_int 1)) (evL_1 (ev_var z76)))) eK) estr ecnt)))), exs_nil])]
  refine ⟨hM, ?_⟩
  rw [exs_ret (ex_retv (ev_bop.trans ((andT (e_eq (ev_callF (evL_cons (ev_var z57) (evL_cons (ev_var z76) (evL_1 (ev_var z76)))) eM) estr ecnt)).trans (b_one.trans (e_eq (ev_var z57) (ev_var z31) (same_cl (K57 qM) (K31 qM)))))))]
end Mine

namespace Mine
open PySem
noncomputable def tab09 : Tab := ⟨vars, [(some (Str.ofString "is_among")), none, none, none, none, none, (some (Str.ofString "_law_cell_at")), (some (Str.ofString "_law_drawn")), (some (Str.ofString "_law_size")), none, (some (Str.ofString "_law_is_int")), none, none, (some (Str.ofString "is_row")), (some (Str.ofString "is_cloth")), (some (Str.ofString "need_cloth")), (some (Str.ofString "many_of")), (some (Str.ofString "need_thread")), (some (Str.ofString "is_weft")), (some (Str.ofString "lies_over")), (some (Str.ofString "crossing")), (some (Str.ofString "places_of")), (some (Str.ofString "loom_of")), (some (Str.ofString "apart")), (some (Str.ofString "_law_kind_at")), (some (Str.ofString "_law_cloth_by")), none, none, none, none, none, none, none, none, none, (some (Str.ofString "_law_name_of")), none, none, none, none, none, none, none, none, none, none, none, (some (Str.ofString "_law_told")), (some (Str.ofString "_law_lies")), (some (Str.ofString "_law_due")), (some (Str.ofString "law")), none, none, none, none, none, none, none, none, none, none, none, none, none, none, none, none, none, none, none, none, none, none, none, none, none, none, none, none, none, none, none, none, none, none, none, none, none, none, none, none, none, none, none, none, none, none, none, none, none, none], [(Str.ofString "MOST")], [(some (Str.ofString "ClothError")), (some (Str.ofString "BadLoom")), (some (Str.ofString "BadCloth")), (some (Str.ofString "BadThread")), (some (Str.ofString "BadCount")), (some (Str.ofString "BadText"))]⟩
noncomputable def pack09 : Pack := ⟨tab09, defs, consts⟩
end Mine
open PySem PySem.W PyProof.Rows Mine
set_option maxRecDepth 100000 in
set_option maxHeartbeats 8000000 in
theorem PySem.Challenge.cw_uf040034_09_holds : PySem.Challenge.rw_uf040034_09.Holds := by
  w_on; o_law
  refine holds_open (q := (viewOf PySem.Challenge.pw_uf040034_09)) (loose := []) (Xt := fun s => xlAt (viewOf PySem.Challenge.pw_uf040034_09) [] s && recOk (RowW.records _) s) (XP := XL (viewOf PySem.Challenge.pw_uf040034_09) []) (Yf := (excHook (viewOf PySem.Challenge.pw_uf040034_09) tab09).obs) (Ya := (excHook (viewOf PySem.Challenge.pw_uf040034_09) tab09).val) (YP := (excHook (viewOf PySem.Challenge.pw_uf040034_09) tab09).says) (N := 8000) ?hl (excHook (viewOf PySem.Challenge.pw_uf040034_09) tab09).of (excHook (viewOf PySem.Challenge.pw_uf040034_09) tab09).keeps
    (fun s e => xl_of s (Bool.and_eq_true_iff.mp e).1) XL.keeps (by rfl) (by rfl) (by rfl) (fun s e => recFacts_of (Bool.and_eq_true_iff.mp e).2) (by rfl) (by first | assumption | decide +kernel) (by decide +kernel) ⟨rfl, rfl, rfl, rfl, rfl, by decide +kernel⟩ ?hw ?hc
  case hl =>
    intro w
    kernel_rfl
  case hw => w_witness2
  intro w s₀ s₁ mg mb G Y fa o pm cd doc dV kV ho hd hcd hD hmg hg args vals as hpre hlay hrd hwl hlo
  refine Ground.open G ?_
  intro T B D TE TW
  obtain ⟨K, KX, KO⟩ := Y
  wrow_args hpre hlay hrd hwl hlo
  rename_i xs _ _ _ _ _ _ _ _ _ _ hL _ _ _ hI _ hlen _
  obtain ⟨H', hrun⟩ := law09 xs (by omega)
  refine law_ends T (P := pack09) (by decide +kernel) (exc_ok T KX KO) (i := 50) (nm := "law") rfl hmg (by decide) hL hI hg hrun ?_ ?_
  · intro cls; rfl
  · wrow_post
