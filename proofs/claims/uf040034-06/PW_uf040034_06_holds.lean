import PyProof.Rows.All
import Wide.All
import OpenK.AllK
import Wide.FinOn
import Lean
import PySem.Challenge.RW_uf040034_06
set_option Elab.async false
set_option autoImplicit false
set_option linter.unusedVariables false
namespace Mine
open PySem

/-- small values -/
inductive V where
  | none | bool (b : Bool) | int (i : Int) | str (s : Str) | ref (a : Nat)

/-- small objects -/
inductive O where
  | list (vs : List V)
  | tuple (vs : List V)
  | dict (es : List (Int × Int))
  | frozen (vs : List V)
  | exc (c : Nat)

abbrev H := List O
abbrev Sto := Nat → Option V

noncomputable def upd (σ : Sto) (i : Nat) (v : V) : Sto := fun j => if j = i then some v else σ j
noncomputable def updL (σ : Sto) : List Nat → List V → Sto
  | i :: is, v :: vs => updL (upd σ i v) is vs
  | _, _ => σ
noncomputable def noSto : Sto := fun _ => Option.none

inductive R (α : Type) where
  | ok (a : α) (h : H)
  | exc (c : Nat) (h : H)
  | stuck

noncomputable def R.bind {α β : Type} (m : R α) (f : α → H → R β) : R β := match m with
  | .ok a h => f a h
  | .exc c h => .exc c h
  | .stuck => .stuck

inductive RS where
  | next (σ : Sto) (h : H)
  | ret (v : V) (h : H)
  | exc (c : Nat) (σ : Sto) (h : H)
  | stuck

/-- the kinds that isinstance is asked for -/
inductive Ty where
  | int | bool | list | tuple | str | exc (k : Nat) | valueError

inductive Bi where
  | len | all | any | list | int | max | min | tuple | sorted | set

inductive Me where
  | append | index | pop | clear

mutual
inductive X where
  | none
  | bool (b : Bool)
  | int (i : Int)
  | str (s : Str)
  | var (i : Nat)
  | glob (i : Nat)
  | bin (op : Operator) (a b : X)
  | neg (a : X)
  | not (a : X)
  | bop (op : BoolOp) (es : List X)
  | ite (t a b : X)
  | cmp (a : X) (ops : List CmpOp) (bs : List X)
  | call (f : Nat) (args : List X)
  | bi (b : Bi) (args : List X)
  | isi (a : X) (t : Ty)
  | meth (m : Me) (o : X) (args : List X)
  | sub (o i : X)
  | list (es : List X)
  | tup (es : List X)
  | dict0
  | comp (elt : X) (v : Nat) (it : It) (ifs : List X)
/-- what a loop goes over -/
inductive It where
  | range (args : List X)
  | val (x : X)
end

inductive S where
  | assign (i : Nat) (e : X)
  | unpack (is : List Nat) (e : X)
  | expr (e : X)
  | ite (t : X) (a b : List S)
  | for (v : Nat) (it : It) (body : List S)
  | ret (e : X)
  | raise (c : Nat)
  | dead

structure Cx where
  F : Nat → List V → H → R V
  G : Nat → Option V

noncomputable def truthV : V → Option Bool
  | .none => some false
  | .bool b => some b
  | .int i => some (i != 0)
  | _ => Option.none

noncomputable def R.ofOpt {α : Type} (o : Option α) (h : H) : R α := match o with
  | some a => .ok a h
  | Option.none => .stuck

noncomputable def big : Nat := 1000000

noncomputable def alloc (o : O) (h : H) : R V := .ok (.ref h.length) (h ++ [o])

noncomputable def small (a : Int) : Bool := decide (-(2 ^ 63) < a) && decide (a < 2 ^ 63)

noncomputable def intOp (op : Operator) (x y : Int) (h : H) : R V := match op with
  | .Add => .ok (.int (x + y)) h
  | .Sub => .ok (.int (x - y)) h
  | .Mult => if small x || small y then .ok (.int (x * y)) h else .stuck
  | .FloorDiv => if 0 < y ∧ y < 1073741824 then .ok (.int (x / y)) h else .stuck
  | .Mod => if 0 < y then .ok (.int (x % y)) h else .stuck
  | _ => .stuck
noncomputable def refOp (op : Operator) (i j : Nat) (h : H) : R V := match op with
  | .Add => match h[i]? with
    | some (.list xs) => match h[j]? with
      | some (.list ys) => if xs.length + ys.length ≤ big then alloc (.list (xs ++ ys)) h else .stuck
      | _ => .stuck
    | _ => .stuck
  | _ => .stuck
noncomputable def binV (op : Operator) (a b : V) (h : H) : R V := match a, b with
  | .int x, .int y => intOp op x y h
  | .ref i, .ref j => refOp op i j h
  | _, _ => .stuck

noncomputable def mapO {α β : Type} (f : α → Option β) : List α → Option (List β)
  | [] => some []
  | a :: as => match f a with
    | some b => match mapO f as with
      | some bs => some (b :: bs)
      | Option.none => Option.none
    | Option.none => Option.none

/-- what stands at a value, as data -/
noncomputable def rd : Nat → H → V → Option PyData
  | 0, _, _ => Option.none
  | n + 1, h, v => match v with
    | .none => some .none
    | .bool b => some (.bool b)
    | .int i => some (.int i)
    | .str s => some (.str s)
    | .ref a => match h[a]? with
      | some (.list vs) => (mapO (rd n h) vs).map .list
      | some (.tuple vs) => (mapO (rd n h) vs).map .tuple
      | _ => Option.none

noncomputable def eqV (h : H) (a b : V) : Option Bool := match rd 6 h a, rd 6 h b with
  | some x, some y => if PyData.canLay0 x && PyData.canLay0 y then some (PyData.eqv x y) else Option.none
  | _, _ => Option.none

noncomputable def listAt (h : H) : V → Option (List V)
  | .ref a => match h[a]? with
    | some (.list vs) => some vs
    | _ => Option.none
  | _ => Option.none

noncomputable def tupAt (h : H) : V → Option (List V)
  | .ref a => match h[a]? with
    | some (.tuple vs) => some vs
    | _ => Option.none
  | _ => Option.none

noncomputable def seqAt (h : H) : V → Option (List V)
  | .ref a => match h[a]? with
    | some (.list vs) => some vs
    | some (.tuple vs) => some vs
    | some (.frozen vs) => some vs
    | _ => Option.none
  | _ => Option.none

noncomputable def isNone : V → Bool
  | .none => true
  | _ => false

noncomputable def inV (h : H) (a b : V) : Option Bool := match rd 6 h b, rd 6 h a with
  | some (.list xs), some d => if PyData.canLayAll0 xs && PyData.canLay0 d then some (xs.any fun y => PyData.eqv y d) else Option.none
  | _, _ => Option.none

noncomputable def indexV (h : H) (b a : V) : Option Nat := match rd 6 h b, rd 6 h a with
  | some (.list xs), some d => if PyData.canLayAll0 xs && PyData.canLay0 d then xs.findIdx? (fun y => PyData.eqv y d) else Option.none
  | _, _ => Option.none

noncomputable def cmpV (op : CmpOp) (a b : V) (h : H) : Option Bool := match op with
  | .Eq => eqV h a b
  | .NotEq => (eqV h a b).map (!·)
  | .Lt => match a, b with | .int x, .int y => some (decide (x < y)) | _, _ => Option.none
  | .LtE => match a, b with | .int x, .int y => some (decide (x ≤ y)) | _, _ => Option.none
  | .Gt => match a, b with | .int x, .int y => some (decide (y < x)) | _, _ => Option.none
  | .GtE => match a, b with | .int x, .int y => some (decide (y ≤ x)) | _, _ => Option.none
  | .Is => match b with | .none => some (isNone a) | _ => Option.none
  | .IsNot => match b with | .none => some (!isNone a) | _ => Option.none
  | .In => inV h a b
  | .NotIn => (inV h a b).map (!·)

noncomputable def idx (k : Int) (n : Nat) : Option Nat :=
  if 0 ≤ k ∧ k < n ∧ n ≤ big then some k.toNat else Option.none

noncomputable def itemV (a b : V) (h : H) : Option V := match b with
  | .int k => match seqAt h a with
    | some vs => match idx k vs.length with
      | some j => vs[j]?
      | Option.none => Option.none
    | Option.none => Option.none
  | _ => Option.none

inductive Kd where
  | none | bool | int | str | list | tuple | dict | exc (c : Nat)

noncomputable def kindV (h : H) : V → Option Kd
  | .none => some .none
  | .bool _ => some .bool
  | .int _ => some .int
  | .str _ => some .str
  | .ref a => match h[a]? with
    | some (.list _) => some .list
    | some (.tuple _) => some .tuple
    | some (.dict _) => some .dict
    | some (.exc c) => some (.exc c)
    | _ => Option.none

noncomputable def tyNo : Ty → Option Nat
  | .int => some 2 | .bool => some 1 | .str => some 3 | .list => some 4 | .tuple => some 5 | .exc _ => Option.none | .valueError => Option.none
noncomputable def kdNo : Kd → Option Nat
  | .none => some 0 | .bool => some 1 | .int => some 2 | .str => some 3 | .list => some 4 | .tuple => some 5 | .dict => some 6 | .exc _ => Option.none
noncomputable def isiK (t : Ty) (k : Kd) : Option Bool := match tyNo t with
  | some a => match kdNo k with
    | some b => some (a == b || (a == 2 && b == 1))
    | Option.none => Option.none
  | Option.none => Option.none

noncomputable def allB : List V → Option Bool
  | [] => some true
  | .bool b :: vs => match allB vs with
    | some t => some (b && t)
    | Option.none => Option.none
  | _ => Option.none

noncomputable def biV (b : Bi) (args : List V) (h : H) : R V := match b, args with
  | .len, [a] => match seqAt h a with
    | some vs => if vs.length ≤ big then .ok (.int vs.length) h else .stuck
    | Option.none => .stuck
  | .all, [a] => match listAt h a with
    | some vs => match allB vs with
      | some t => .ok (.bool t) h
      | Option.none => .stuck
    | Option.none => .stuck
  | .list, [a] => match listAt h a with
    | some vs => if vs.length ≤ big then alloc (.list vs) h else .stuck
    | Option.none => .stuck
  | .int, [a] => match a with
    | .bool t => .ok (.int (if t then 1 else 0)) h
    | .int i => .ok (.int i) h
    | _ => .stuck
  | _, _ => .stuck

noncomputable def meV (m : Me) (o : V) (args : List V) (h : H) : R V := match o with
  | .ref a => match h[a]? with
    | some (.list vs) => match m, args with
      | .append, [v] => if vs.length ≤ big then .ok .none (h.set a (.list (vs ++ [v]))) else .stuck
      | .clear, [] => if vs.length ≤ big then .ok .none (h.set a (.list [])) else .stuck
      | .index, [v] => match indexV h o v with
        | some k => if vs.length ≤ big then .ok (.int k) h else .stuck
        | Option.none => .stuck
      | _, _ => .stuck
    | _ => .stuck
  | _ => .stuck

noncomputable def countV (a : Int) : Nat → List V
  | 0 => []
  | n + 1 => .int a :: countV (a + 1) n

noncomputable def tiny (a : Int) : Bool := decide (-1000000 < a) && decide (a < 1000000)
noncomputable def rangeV : List V → Option (List V)
  | [.int n] => if tiny n then some (countV 0 n.toNat) else Option.none
  | [.int a, .int b] => if tiny a && tiny b then some (countV a (b - a).toNat) else Option.none
  | _ => Option.none

/-- an iterable's items, and the object that must stay as it is -/
structure Src where
  items : List V
  live : Option (Nat × O)

noncomputable def Src.stands (x : Src) (h : H) : Prop := match x.live with
  | some (a, o) => h[a]? = some o
  | Option.none => True

noncomputable def srcV (v : V) (h : H) : Option Src := match v with
  | .ref a => match h[a]? with
    | some (.list vs) => some ⟨vs, some (a, .list vs)⟩
    | some (.tuple vs) => some ⟨vs, some (a, .tuple vs)⟩
    | _ => Option.none
  | _ => Option.none

/-- tests of a comprehension, one after the other -/
noncomputable def testsR (ts : List (H → R V)) (h : H) : R Bool := match ts with
  | [] => .ok true h
  | t :: ts => match t h with
    | .ok v h' => match truthV v with
      | some true => testsR ts h'
      | some false => .ok false h'
      | Option.none => .stuck
    | _ => .stuck

open Classical in
/-- a comprehension's turns: no turn may raise -/
noncomputable def compR (src : Src) (tests : V → H → R Bool) (elt : V → H → R V) : List V → H → R (List V)
  | [], h => if src.stands h then .ok [] h else .stuck
  | v :: vs, h => if src.stands h then
      match tests v h with
      | .ok true h1 => match elt v h1 with
        | .ok x h2 => match compR src tests elt vs h2 with
          | .ok xs h3 => .ok (x :: xs) h3
          | _ => .stuck
        | _ => .stuck
      | .ok false h1 => compR src tests elt vs h1
      | _ => .stuck
    else .stuck

open Classical in
/-- a for's turns: no turn may raise -/
noncomputable def forR (src : Src) (body : V → Sto → H → RS) : List V → Sto → H → RS
  | [], σ, h => if src.stands h then .next σ h else .stuck
  | v :: vs, σ, h => if src.stands h then
      match body v σ h with
      | .next σ1 h1 => forR src body vs σ1 h1
      | .ret x h1 => .ret x h1
      | _ => .stuck
    else .stuck

mutual
noncomputable def ev (C : Cx) : X → Sto → H → R V
  | .none, _, h => .ok .none h
  | .bool b, _, h => .ok (.bool b) h
  | .int i, _, h => .ok (.int i) h
  | .str s, _, h => .ok (.str s) h
  | .var i, σ, h => .ofOpt (σ i) h
  | .glob i, _, h => .ofOpt (C.G i) h
  | .bin op a b, σ, h => (ev C a σ h).bind fun x h1 => (ev C b σ h1).bind fun y h2 => binV op x y h2
  | .neg a, σ, h => (ev C a σ h).bind fun x h1 => match x with | .int i => .ok (.int (-i)) h1 | _ => .stuck
  | .not a, σ, h => (ev C a σ h).bind fun x h1 => match truthV x with | some t => .ok (.bool (!t)) h1 | Option.none => .stuck
  | .bop op es, σ, h => evB C op es σ h
  | .ite t a b, σ, h => (ev C t σ h).bind fun x h1 => match truthV x with
    | some true => ev C a σ h1
    | some false => ev C b σ h1
    | Option.none => .stuck
  | .cmp a ops bs, σ, h => (ev C a σ h).bind fun x h1 => evC C x ops bs σ h1
  | .call f args, σ, h => (evL C args σ h).bind fun vs h1 => C.F f vs h1
  | .bi b args, σ, h => (evL C args σ h).bind fun vs h1 => biV b vs h1
  | .isi a t, σ, h => (ev C a σ h).bind fun x h1 => match kindV h1 x with
    | some k => match isiK t k with
      | some b => .ok (.bool b) h1
      | Option.none => .stuck
    | Option.none => .stuck
  | .meth m o args, σ, h => (ev C o σ h).bind fun x h1 => match kindV h1 x with
    | some .list => (evL C args σ h1).bind fun vs h2 => meV m x vs h2
    | _ => .stuck
  | .sub o i, σ, h => (ev C o σ h).bind fun x h1 => (ev C i σ h1).bind fun y h2 => .ofOpt (itemV x y h2) h2
  | .list es, σ, h => (evL C es σ h).bind fun vs h1 => if vs.length ≤ big then alloc (.list vs) h1 else .stuck
  | .tup es, σ, h => (evL C es σ h).bind fun vs h1 => if vs.length ≤ big then alloc (.tuple vs) h1 else .stuck
  | .dict0, _, h => alloc (.dict []) h
  | .comp elt v it ifs, σ, h => (evS C it σ h).bind fun src h1 =>
    if src.items.length ≤ big then
      (compR src (fun x h2 => testsR (evT C ifs (upd σ v x)) h2) (fun x h2 => ev C elt (upd σ v x) h2) src.items h1).bind fun vs h2 => alloc (.list vs) h2
    else .stuck
noncomputable def evL (C : Cx) : List X → Sto → H → R (List V)
  | [], _, h => .ok [] h
  | e :: es, σ, h => (ev C e σ h).bind fun v h1 => (evL C es σ h1).bind fun vs h2 => .ok (v :: vs) h2
noncomputable def evB (C : Cx) (op : BoolOp) : List X → Sto → H → R V
  | [], _, _ => .stuck
  | [e], σ, h => ev C e σ h
  | e :: e' :: es, σ, h => (ev C e σ h).bind fun x h1 => match truthV x with
    | some t => if t = (op == .Or) then .ok x h1 else evB C op (e' :: es) σ h1
    | Option.none => .stuck
noncomputable def evC (C : Cx) (x : V) : List CmpOp → List X → Sto → H → R V
  | [op], [e], σ, h => (ev C e σ h).bind fun y h1 => match cmpV op x y h1 with
    | some t => .ok (.bool t) h1
    | Option.none => .stuck
  | op :: ops, e :: es, σ, h => (ev C e σ h).bind fun y h1 => match cmpV op x y h1 with
    | some true => evC C y ops es σ h1
    | some false => .ok (.bool false) h1
    | Option.none => .stuck
  | _, _, _, _ => .stuck
noncomputable def evS (C : Cx) : It → Sto → H → R Src
  | .range args, σ, h => (evL C args σ h).bind fun vs h1 => match rangeV vs with
    | some items => .ok ⟨items, Option.none⟩ h1
    | Option.none => .stuck
  | .val x, σ, h => (ev C x σ h).bind fun v h1 => .ofOpt (srcV v h1) h1
noncomputable def evT (C : Cx) : List X → Sto → List (H → R V)
  | [], _ => []
  | e :: es, σ => (fun h => ev C e σ h) :: evT C es σ
end

mutual
noncomputable def ex (C : Cx) : S → Sto → H → RS
  | .assign i e, σ, h => match ev C e σ h with
    | .ok v h1 => .next (upd σ i v) h1
    | .exc c h1 => .exc c σ h1
    | .stuck => .stuck
  | .unpack is e, σ, h => match ev C e σ h with
    | .ok v h1 => match tupAt h1 v with
      | some vs => if vs.length = is.length then .next (updL σ is vs) h1 else .stuck
      | Option.none => .stuck
    | .exc c h1 => .exc c σ h1
    | .stuck => .stuck
  | .expr e, σ, h => match ev C e σ h with
    | .ok _ h1 => .next σ h1
    | .exc c h1 => .exc c σ h1
    | .stuck => .stuck
  | .ite t a b, σ, h => match ev C t σ h with
    | .ok v h1 => match truthV v with
      | some true => exs C a σ h1
      | some false => exs C b σ h1
      | Option.none => .stuck
    | .exc c h1 => .exc c σ h1
    | .stuck => .stuck
  | .for v it body, σ, h => match evS C it σ h with
    | .ok src h1 => forR src (fun x σ1 h2 => exs C body (upd σ1 v x) h2) src.items σ h1
    | .exc c h1 => .exc c σ h1
    | .stuck => .stuck
  | .ret e, σ, h => match ev C e σ h with
    | .ok v h1 => .ret v h1
    | .exc c h1 => .exc c σ h1
    | .stuck => .stuck
  | .raise c, σ, h => .exc c σ h
  | .dead, _, _ => .stuck
noncomputable def exs (C : Cx) : List S → Sto → H → RS
  | [], σ, h => .next σ h
  | s :: ss, σ, h => match ex C s σ h with
    | .next σ1 h1 => exs C ss σ1 h1
    | r => r
end


end Mine

set_option autoImplicit false
set_option linter.unusedVariables false
namespace Mine
open PySem PyProof.Rows

/-- names: slots, defs, constants, classes -/
structure Tab where
  vars : List Str
  fns : List (Option Str)
  glbs : List Str
  clss : List Str

/-- what stays fixed through the law's call -/
structure Wd where
  prog : Program
  w : World
  h₀ : Heap
  os₀ : OsState
  gens₀ : Array GenState
  T : Tab
  cls : Nat → Option Value
  mg : Str → Option Value
  mb : Str → Option Value

inductive VR (ρ : List Addr) : V → Value → Prop where
  | none : VR ρ .none .none
  | bool (b : Bool) : VR ρ (.bool b) (.bool b)
  | int (i : Int) (t : Tok) : VR ρ (.int i) (.int i t)
  | str (s : Str) (t : Tok) : VR ρ (.str s) (.str s t)
  | ref (i : Nat) (a : Addr) : ρ[i]? = some a → VR ρ (.ref i) (.ref a)

inductive VRs (ρ : List Addr) : List V → List Value → Prop where
  | nil : VRs ρ [] []
  | cons {v : V} {x : Value} {vs : List V} {xs : List Value} : VR ρ v x → VRs ρ vs xs → VRs ρ (v :: vs) (x :: xs)

theorem VR.mono {ρ δ : List Addr} {v : V} {x : Value} (h : VR ρ v x) : VR (ρ ++ δ) v x := by
  cases h with
  | none => exact .none
  | bool b => exact .bool b
  | int i t => exact .int i t
  | str s t => exact .str s t
  | ref i a e => exact .ref i a (by rw [List.getElem?_append_left (List.getElem?_eq_some_iff.mp e).1]; exact e)
theorem VRs.mono {ρ δ : List Addr} {vs : List V} {xs : List Value} (h : VRs ρ vs xs) : VRs (ρ ++ δ) vs xs := by
  induction h with
  | nil => exact .nil
  | cons a _ ih => exact .cons a.mono ih
theorem VRs.length {ρ : List Addr} {vs : List V} {xs : List Value} (h : VRs ρ vs xs) : vs.length = xs.length := by
  induction h with
  | nil => rfl
  | cons _ _ ih => simp [ih]
theorem VRs.at {ρ : List Addr} {vs : List V} {xs : List Value} (h : VRs ρ vs xs) : ∀ {i : Nat} {v : V}, vs[i]? = some v → ∃ x, xs[i]? = some x ∧ VR ρ v x := by
  induction h with
  | nil => intro i v e; simp at e
  | cons a _ ih =>
    intro i v e
    cases i with
    | zero => simp at e; subst e; exact ⟨_, by simp, a⟩
    | succ j => simp at e; simpa using ih e
theorem VRs.append {ρ : List Addr} {vs ws : List V} {xs ys : List Value} (h : VRs ρ vs xs) (g : VRs ρ ws ys) : VRs ρ (vs ++ ws) (xs ++ ys) := by
  induction h with
  | nil => exact g
  | cons a _ ih => exact .cons a ih
theorem VRs.snoc {ρ : List Addr} {vs : List V} {v : V} {xs : List Value} {x : Value} (h : VRs ρ vs xs) (g : VR ρ v x) : VRs ρ (vs ++ [v]) (xs ++ [x]) := h.append (.cons g .nil)

/-- an object left as it was, a frame's slots apart -/
noncomputable def Kp (o o' : Obj) : Prop := o' = o ∨ ((∃ es n, o.data = .dict es n) ∧ ∃ sl, o' = { o with slots := sl })
theorem Kp.refl (o : Obj) : Kp o o := .inl rfl
theorem Kp.data {o o' : Obj} (h : Kp o o') : o'.data = o.data := by
  rcases h with rfl | ⟨_, sl, rfl⟩ <;> rfl
theorem Kp.cls {o o' : Obj} (h : Kp o o') : o'.cls = o.cls := by
  rcases h with rfl | ⟨_, sl, rfl⟩ <;> rfl
theorem Kp.trans {o o' o'' : Obj} (h : Kp o o') (g : Kp o' o'') : Kp o o'' := by
  rcases h with rfl | ⟨⟨es, n, hd⟩, sl, rfl⟩
  · exact g
  · rcases g with rfl | ⟨_, sl', rfl⟩
    · exact .inr ⟨⟨es, n, hd⟩, sl, rfl⟩
    · exact .inr ⟨⟨es, n, hd⟩, sl', rfl⟩
theorem Kp.eq {o o' : Obj} (h : Kp o o') (hn : ∀ es n, o.data ≠ .dict es n) : o' = o := by
  rcases h with rfl | ⟨⟨es, n, hd⟩, _⟩
  · rfl
  · exact absurd hd (hn es n)

noncomputable def OR (W : Wd) (ρ : List Addr) (h : Heap) (a : Addr) : O → Prop
  | .list vs => ∃ items, h.PlainList a items ∧ VRs ρ vs items.toList
  | .tuple vs => ∃ items n, h.get? a = some { cls := .type "tuple", data := .seq items n } ∧ VRs ρ vs items.toList
  | .frozen vs => ∃ items, h.IsList a items ∧ VRs ρ vs items.toList
  | .dict es => es = [] ∧ ∃ o n, h.get? a = some o ∧ o.cls = .type "dict" ∧ o.data = .dict #[] n
  | .exc c => ∃ o C, h.get? a = some o ∧ W.cls c = some C ∧ o.cls = C ∧ ∃ vs, o.data = .fields vs

structure HR (W : Wd) (ρ : List Addr) (H : H) (h : Heap) : Prop where
  len : ρ.length = H.length
  obj : ∀ (i : Nat) (o : O), H[i]? = some o → ∃ a, ρ[i]? = some a ∧ OR W ρ h a o

structure EnvR (W : Wd) (env : Env) (ρ : List Addr) (σ : Sto) (h : Heap) : Prop where
  kind : env.scope.kind = .function
  glob : env.globals = mainGlobals
  blt : env.builtins = builtinsNs
  ns : ∃ m, h.Ns env.locals m ∧ ∀ i v n, σ i = some v → W.T.vars[i]? = some n → env.kindOf n = some .local → ∃ x, m n = some x ∧ VR ρ v x
  cell : ∀ n, env.kindOf n = some .cell ∨ env.kindOf n = some .free → ∃ c x, env.cells.lookup n = some c ∧ h.IsCell c x ∧ c ∉ ρ ∧ W.h₀.get? c = none ∧
    ∀ i v, σ i = some v → W.T.vars[i]? = some n → ∃ y, x = some y ∧ VR ρ v y
  inj : ∀ n n' c, env.cells.lookup n = some c → env.cells.lookup n' = some c → n = n'
  loc : env.locals ∉ ρ
  new : W.h₀.get? env.locals = none

structure RelH (W : Wd) (ρ : List Addr) (H : H) (s : Shared) : Prop where
  keep : ∀ b o, W.h₀.get? b = some o → s.heap.get? b = some o
  os : s.os = W.os₀
  gens : s.gens = W.gens₀
  heap : HR W ρ H s.heap
  nodup : ρ.Nodup
  new : ∀ (i : Nat) (a : Addr), ρ[i]? = some a → (∃ vs, H[i]? = some (O.frozen vs)) ∨ W.h₀.get? a = none

structure Rel (W : Wd) (env : Env) (ρ : List Addr) (σ : Sto) (H : H) (s : Shared) : Prop extends RelH W ρ H s where
  env : EnvR W env ρ σ s.heap

/-- what a piece of a run leaves: all but what it owns and the small heap's objects -/
structure Step (own : Addr → Prop) (ρ : List Addr) (s : Shared) (ρ' : List Addr) (s' : Shared) : Prop where
  ext : ∃ δ, ρ' = ρ ++ δ ∧ ∀ b ∈ δ, s.heap.get? b = none
  keep : ∀ b o, s.heap.get? b = some o → b ∉ ρ → ¬ own b → ∃ o', s'.heap.get? b = some o' ∧ Kp o o'
  live : ∀ b o, s.heap.get? b = some o → ∃ o', s'.heap.get? b = some o'

noncomputable def no : Addr → Prop := fun _ => False
noncomputable def mine (env : Env) : Addr → Prop := fun b => b = env.locals ∨ ∃ n, env.kindOf n = some .cell ∧ env.cells.lookup n = some b

theorem Step.refl {own : Addr → Prop} (ρ : List Addr) (s : Shared) : Step own ρ s ρ s :=
  ⟨⟨[], by simp, by simp⟩, fun _ o e _ _ => ⟨o, e, .refl o⟩, fun _ o e => ⟨o, e⟩⟩
theorem Step.toks {own : Addr → Prop} (ρ : List Addr) (s : Shared) (tk : Nat) : Step own ρ s ρ { s with toks := tk } :=
  ⟨⟨[], by simp, by simp⟩, fun _ o e _ _ => ⟨o, e, .refl o⟩, fun _ o e => ⟨o, e⟩⟩
theorem Step.trans {own : Addr → Prop} {ρ₁ ρ₂ ρ₃ : List Addr} {s₁ s₂ s₃ : Shared} (x : Step own ρ₁ s₁ ρ₂ s₂) (y : Step own ρ₂ s₂ ρ₃ s₃) : Step own ρ₁ s₁ ρ₃ s₃ := by
  obtain ⟨δ₁, rfl, n₁⟩ := x.ext
  obtain ⟨δ₂, rfl, n₂⟩ := y.ext
  refine ⟨⟨δ₁ ++ δ₂, by simp, fun b hb => ?_⟩, fun b o e hb ho => ?_, fun b o e => ?_⟩
  · rcases List.mem_append.mp hb with hb | hb
    · exact n₁ b hb
    · cases q : s₁.heap.get? b with
      | none => rfl
      | some o => obtain ⟨o', e'⟩ := x.live b o q; rw [n₂ b hb] at e'; cases e'
  · obtain ⟨o₂, e₂, k₂⟩ := x.keep b o e hb ho
    obtain ⟨o₃, e₃, k₃⟩ := y.keep b o₂ e₂ (fun hm => by
      rcases List.mem_append.mp hm with hm | hm
      · exact hb hm
      · rw [n₁ b hm] at e; cases e) ho
    exact ⟨o₃, e₃, k₂.trans k₃⟩
  · obtain ⟨o₂, e₂⟩ := x.live b o e
    exact y.live b o₂ e₂
theorem Step.weaken {own own' : Addr → Prop} {ρ ρ' : List Addr} {s s' : Shared} (x : Step own ρ s ρ' s') (h : ∀ b o, s.heap.get? b = some o → own b → own' b) : Step own' ρ s ρ' s' :=
  ⟨x.ext, fun b o e hb ho => x.keep b o e hb fun q => ho (h b o e q), x.live⟩
theorem Step.of_no {own : Addr → Prop} {ρ ρ' : List Addr} {s s' : Shared} (x : Step no ρ s ρ' s') : Step own ρ s ρ' s' := x.weaken fun _ _ _ q => q.elim
theorem Step.vr {own : Addr → Prop} {ρ ρ' : List Addr} {s s' : Shared} (x : Step own ρ s ρ' s') {v : V} {y : Value} (h : VR ρ v y) : VR ρ' v y := by
  obtain ⟨δ, rfl, _⟩ := x.ext; exact h.mono
theorem Step.vrs {own : Addr → Prop} {ρ ρ' : List Addr} {s s' : Shared} (x : Step own ρ s ρ' s') {v : List V} {y : List Value} (h : VRs ρ v y) : VRs ρ' v y := by
  obtain ⟨δ, rfl, _⟩ := x.ext; exact h.mono
/-- the heap grew, nothing else -/
theorem Step.grow {own : Addr → Prop} {ρ : List Addr} {s s' : Shared} (hk : ∀ b o, s.heap.get? b = some o → s'.heap.get? b = some o) : Step own ρ s ρ s' :=
  ⟨⟨[], by simp, by simp⟩, fun b o e _ _ => ⟨o, hk b o e, .refl o⟩, fun b o e => ⟨o, hk b o e⟩⟩
theorem Step.fresh {own : Addr → Prop} {ρ ρ' : List Addr} {s s' : Shared} (x : Step own ρ s ρ' s') {b : Addr} {o : Obj} (e : s.heap.get? b = some o) (hb : b ∉ ρ) : b ∉ ρ' := by
  obtain ⟨δ, rfl, n⟩ := x.ext
  intro hm
  rcases List.mem_append.mp hm with hm | hm
  · exact hb hm
  · rw [n b hm] at e; cases e

theorem isList_kp {h h' : Heap} {a : Addr} {items : Array Value} (x : h.IsList a items) (k : ∀ o, h.get? a = some o → ∃ o', h'.get? a = some o' ∧ Kp o o') : h'.IsList a items := by
  obtain ⟨o, ho, hc, n, hd⟩ := x
  obtain ⟨o', ho', hk⟩ := k o ho
  exact ⟨o', ho', hk.cls.trans hc, n, hk.data.trans hd⟩
theorem isTup_kp {h h' : Heap} {a : Addr} {items : Array Value} (x : IsTup h a items) (k : ∀ o, h.get? a = some o → ∃ o', h'.get? a = some o' ∧ Kp o o') : IsTup h' a items := by
  obtain ⟨o, ho, hc, n, hd⟩ := x
  obtain ⟨o', ho', hk⟩ := k o ho
  exact ⟨o', ho', hk.cls.trans hc, n, hk.data.trans hd⟩
theorem isCell_kp {h h' : Heap} {a : Addr} {v : Option Value} (x : h.IsCell a v) (k : ∀ o, h.get? a = some o → ∃ o', h'.get? a = some o' ∧ Kp o o') : h'.IsCell a v := by
  obtain ⟨o, ho, hd⟩ := x
  obtain ⟨o', ho', hk⟩ := k o ho
  exact ⟨o', ho', hk.data.trans hd⟩
theorem ns_kp {h h' : Heap} {a : Addr} {m : Str → Option Value} (x : h.Ns a m) (k : ∀ o, h.get? a = some o → ∃ o', h'.get? a = some o' ∧ Kp o o') : h'.Ns a m := by
  obtain ⟨o, es, ep, ho, hd, r⟩ := x
  obtain ⟨o', ho', hk⟩ := k o ho
  exact ⟨o', es, ep, ho', hk.data.trans hd, r⟩

theorem OR.kp {W : Wd} {ρ : List Addr} {h h' : Heap} {a : Addr} {o : O} (x : OR W ρ h a o) (k : ∀ o, h.get? a = some o → ∃ o', h'.get? a = some o' ∧ Kp o o') : OR W ρ h' a o := by
  cases o with
  | list vs =>
    obtain ⟨items, ⟨n, ho⟩, r⟩ := x
    obtain ⟨o', ho', hk⟩ := k _ ho
    exact ⟨items, ⟨n, by rw [ho', hk.eq (by simp)]⟩, r⟩
  | tuple vs =>
    obtain ⟨items, n, ho, r⟩ := x
    obtain ⟨o', ho', hk⟩ := k _ ho
    exact ⟨items, n, by rw [ho', hk.eq (by simp)], r⟩
  | frozen vs => obtain ⟨items, hl, r⟩ := x; exact ⟨items, isList_kp hl k, r⟩
  | dict es =>
    obtain ⟨e, o, n, ho, hc, hd⟩ := x
    obtain ⟨o', ho', hk⟩ := k o ho
    exact ⟨e, o', n, ho', hk.cls.trans hc, hk.data.trans hd⟩
  | exc c =>
    obtain ⟨o, C, ho, hW, hc, vs, hd⟩ := x
    obtain ⟨o', ho', hk⟩ := k o ho
    exact ⟨o', C, ho', hW, hk.cls.trans hc, vs, hk.data.trans hd⟩
theorem OR.mono {W : Wd} {ρ δ : List Addr} {h : Heap} {a : Addr} {o : O} (x : OR W ρ h a o) : OR W (ρ ++ δ) h a o := by
  cases o with
  | list vs => obtain ⟨items, hl, r⟩ := x; exact ⟨items, hl, r.mono⟩
  | tuple vs => obtain ⟨items, n, hl, r⟩ := x; exact ⟨items, n, hl, r.mono⟩
  | frozen vs => obtain ⟨items, hl, r⟩ := x; exact ⟨items, hl, r.mono⟩
  | dict es => exact x
  | exc c => exact x
theorem OR.lt {W : Wd} {ρ : List Addr} {h : Heap} {a : Addr} {o : O} (x : OR W ρ h a o) : ∃ ob, h.get? a = some ob := by
  cases o with
  | list vs => obtain ⟨items, ⟨n, ho⟩, r⟩ := x; exact ⟨_, ho⟩
  | tuple vs => obtain ⟨items, n, ho, r⟩ := x; exact ⟨_, ho⟩
  | frozen vs => obtain ⟨items, ⟨ob, ho, _⟩, r⟩ := x; exact ⟨ob, ho⟩
  | dict es => obtain ⟨_, ob, n, ho, _⟩ := x; exact ⟨ob, ho⟩
  | exc c => obtain ⟨ob, C, ho, _⟩ := x; exact ⟨ob, ho⟩

theorem HR.kp {W : Wd} {ρ : List Addr} {H : H} {h h' : Heap} (x : HR W ρ H h) (k : ∀ a ∈ ρ, ∀ o, h.get? a = some o → ∃ o', h'.get? a = some o' ∧ Kp o o') : HR W ρ H h' :=
  ⟨x.len, fun i o e => let ⟨a, ha, r⟩ := x.obj i o e; ⟨a, ha, r.kp (k a (List.mem_of_getElem? ha))⟩⟩
theorem HR.live {W : Wd} {ρ : List Addr} {H : H} {h : Heap} (x : HR W ρ H h) {a : Addr} (ha : a ∈ ρ) : ∃ o, h.get? a = some o := by
  obtain ⟨i, hi, e⟩ := List.getElem_of_mem ha
  have hi' : i < H.length := by rw [← x.len]; exact hi
  obtain ⟨b, hb, r⟩ := x.obj i H[i] (by simp [hi'])
  have : b = a := by
    have q : ρ[i]? = some a := by rw [List.getElem?_eq_getElem hi, e]
    rw [q] at hb; exact (Option.some.inj hb).symm
  subst this
  exact r.lt

theorem EnvR.kp {W : Wd} {env : Env} {ρ : List Addr} {σ : Sto} {h h' : Heap} (x : EnvR W env ρ σ h) (k : ∀ b o, h.get? b = some o → b ∉ ρ → ∃ o', h'.get? b = some o' ∧ Kp o o') : EnvR W env ρ σ h' := by
  refine ⟨x.kind, x.glob, x.blt, ?_, fun n hn => ?_, x.inj, x.loc, x.new⟩
  · obtain ⟨m, hm, r⟩ := x.ns
    exact ⟨m, ns_kp hm fun o e => k _ o e x.loc, r⟩
  · obtain ⟨c, y, h1, h2, h3, h4, h5⟩ := x.cell n hn
    exact ⟨c, y, h1, isCell_kp h2 fun o e => k _ o e h3, h3, h4, h5⟩
theorem EnvR.mono {W : Wd} {env : Env} {ρ δ : List Addr} {σ : Sto} {h : Heap} (x : EnvR W env ρ σ h) (hl : env.locals ∉ δ)
    (hc : ∀ n c, env.kindOf n = some .cell ∨ env.kindOf n = some .free → env.cells.lookup n = some c → c ∉ δ) : EnvR W env (ρ ++ δ) σ h := by
  refine ⟨x.kind, x.glob, x.blt, ?_, fun n hn => ?_, x.inj, fun hm => ?_, x.new⟩
  · obtain ⟨m, hm, r⟩ := x.ns
    exact ⟨m, hm, fun i v n h1 h2 h3 => let ⟨y, hy, hv⟩ := r i v n h1 h2 h3; ⟨y, hy, hv.mono⟩⟩
  · obtain ⟨c, y, h1, h2, h3, h4, h5⟩ := x.cell n hn
    refine ⟨c, y, h1, h2, fun hm => ?_, h4, fun i v e1 e2 => let ⟨z, e, r⟩ := h5 i v e1 e2; ⟨z, e, r.mono⟩⟩
    rcases List.mem_append.mp hm with hm | hm
    · exact h3 hm
    · exact hc n c hn h1 hm
  · rcases List.mem_append.mp hm with hm | hm
    · exact x.loc hm
    · exact hl hm

/-- the heap grew, nothing else -/
theorem RelH.grow {W : Wd} {ρ : List Addr} {H : H} {s : Shared} (x : RelH W ρ H s) {h' : Heap} {tk : Nat} (hk : ∀ b o, s.heap.get? b = some o → h'.get? b = some o) :
    RelH W ρ H { s with heap := h', toks := tk } :=
  ⟨fun b o e => hk b o (x.keep b o e), x.os, x.gens, x.heap.kp fun a _ o e => ⟨o, hk a o e, .refl o⟩, x.nodup, x.new⟩
theorem Rel.grow {W : Wd} {env : Env} {ρ : List Addr} {σ : Sto} {H : H} {s : Shared} (x : Rel W env ρ σ H s) {h' : Heap} {tk : Nat} (hk : ∀ b o, s.heap.get? b = some o → h'.get? b = some o) :
    Rel W env ρ σ H { s with heap := h', toks := tk } := ⟨x.toRelH.grow hk, x.env.kp fun b o e _ => ⟨o, hk b o e, .refl o⟩⟩
theorem RelH.toks {W : Wd} {ρ : List Addr} {H : H} {s : Shared} (x : RelH W ρ H s) {tk : Nat} : RelH W ρ H { s with toks := tk } :=
  ⟨x.keep, x.os, x.gens, x.heap, x.nodup, x.new⟩
theorem Rel.toks {W : Wd} {env : Env} {ρ : List Addr} {σ : Sto} {H : H} {s : Shared} (x : Rel W env ρ σ H s) {tk : Nat} : Rel W env ρ σ H { s with toks := tk } :=
  ⟨x.toRelH.toks, x.env⟩

/-- a real object taken into the small heap -/
theorem RelH.adopt {W : Wd} {ρ : List Addr} {H : H} {s : Shared} (x : RelH W ρ H s) {a : Addr} {o : O} (ho : OR W (ρ ++ [a]) s.heap a o) (ha : a ∉ ρ) (hn : W.h₀.get? a = none) : RelH W (ρ ++ [a]) (H ++ [o]) s := by
  refine ⟨x.keep, x.os, x.gens, ⟨by simp [x.heap.len], fun i o' e => ?_⟩, ?_, fun i b e => ?_⟩
  · by_cases hi : i < H.length
    · rw [List.getElem?_append_left hi] at e
      obtain ⟨b, hb, r⟩ := x.heap.obj i o' e
      exact ⟨b, by rw [List.getElem?_append_left (by rw [x.heap.len]; exact hi)]; exact hb, r.mono⟩
    · have hi' : i = H.length := by
        have := (List.getElem?_eq_some_iff.mp e).1
        simp at this; omega
      subst hi'
      simp at e; subst e
      exact ⟨a, by rw [← x.heap.len]; simp, ho⟩
  · rw [List.nodup_append]
    exact ⟨x.nodup, by simp, fun b hb c hc e => ha (by simp at hc; rw [← hc, ← e]; exact hb)⟩
  · by_cases hi : i < ρ.length
    · rw [List.getElem?_append_left hi] at e
      rw [List.getElem?_append_left (by rw [← x.heap.len]; exact hi)]
      exact x.new i b e
    · have : i = ρ.length := by
        have := (List.getElem?_eq_some_iff.mp e).1
        simp at this; omega
      rw [this] at e; simp at e; subst e; exact .inr hn
theorem Rel.adopt {W : Wd} {env : Env} {ρ : List Addr} {σ : Sto} {H : H} {s : Shared} (x : Rel W env ρ σ H s) {a : Addr} {o : O} (ho : OR W (ρ ++ [a]) s.heap a o) (ha : a ∉ ρ) (hn : W.h₀.get? a = none)
    (hl : env.locals ≠ a) (hc : ∀ n c, env.kindOf n = some .cell ∨ env.kindOf n = some .free → env.cells.lookup n = some c → c ≠ a) : Rel W env (ρ ++ [a]) σ (H ++ [o]) s :=
  ⟨x.toRelH.adopt ho ha hn, x.env.mono (by simpa using hl) fun n c hk hlk => by simpa using hc n c hk hlk⟩

theorem EnvR.alive {W : Wd} {env : Env} {ρ : List Addr} {σ : Sto} {h : Heap} (x : EnvR W env ρ σ h) : ∃ o, h.get? env.locals = some o := by
  obtain ⟨m, ⟨o, _, _, ho, _⟩, _⟩ := x.ns; exact ⟨o, ho⟩
theorem EnvR.cellAlive {W : Wd} {env : Env} {ρ : List Addr} {σ : Sto} {h : Heap} (x : EnvR W env ρ σ h) {n : Str} {c : Addr} (hk : env.kindOf n = some .cell ∨ env.kindOf n = some .free) (hc : env.cells.lookup n = some c) : ∃ o, h.get? c = some o := by
  obtain ⟨c', _, h1, ⟨o, ho, _⟩, _⟩ := x.cell n hk
  rw [h1] at hc; cases hc; exact ⟨o, ho⟩
theorem RelH.fresh {W : Wd} {ρ : List Addr} {H : H} {s : Shared} (x : RelH W ρ H s) {a : Addr} (ha : s.heap.get? a = none) : a ∉ ρ ∧ W.h₀.get? a = none := by
  refine ⟨fun hm => ?_, ?_⟩
  · obtain ⟨o, e⟩ := x.heap.live hm; rw [ha] at e; cases e
  · cases q : W.h₀.get? a with
    | none => rfl
    | some o => have := x.keep a o q; rw [ha] at this; cases this
theorem Rel.fresh {W : Wd} {env : Env} {ρ : List Addr} {σ : Sto} {H : H} {s : Shared} (x : Rel W env ρ σ H s) {a : Addr} (ha : s.heap.get? a = none) :
    a ∉ ρ ∧ W.h₀.get? a = none ∧ env.locals ≠ a ∧ ∀ n c, env.kindOf n = some .cell ∨ env.kindOf n = some .free → env.cells.lookup n = some c → c ≠ a := by
  refine ⟨(x.toRelH.fresh ha).1, (x.toRelH.fresh ha).2, fun q => ?_, fun n c hk hc q => ?_⟩
  · obtain ⟨o, e⟩ := x.env.alive; rw [q, ha] at e; cases e
  · obtain ⟨o, e⟩ := x.env.cellAlive hk hc; rw [q, ha] at e; cases e

/-- a new object -/
theorem Rel.push {W : Wd} {env : Env} {ρ : List Addr} {σ : Sto} {H : H} {s : Shared} (x : Rel W env ρ σ H s) {ob : Obj} {o : O} {tk : Nat}
    (ho : OR W (ρ ++ [s.heap.objs.size]) (s.heap.push ob) s.heap.objs.size o) : Rel W env (ρ ++ [s.heap.objs.size]) σ (H ++ [o]) { s with heap := s.heap.push ob, toks := tk } := by
  have f := x.fresh (Heap.get?_none_of_le (Nat.le_refl s.heap.objs.size))
  exact (x.grow (tk := tk) fun b o e => Heap.get?_push_of_some ob e).adopt ho f.1 f.2.1 f.2.2.1 f.2.2.2
theorem Step.push {own : Addr → Prop} {ρ : List Addr} {s : Shared} {ob : Obj} {tk : Nat} : Step own ρ s (ρ ++ [s.heap.objs.size]) { s with heap := s.heap.push ob, toks := tk } :=
  ⟨⟨_, rfl, by simpa using Heap.get?_none_of_le (Nat.le_refl _)⟩, fun b o e _ _ => ⟨o, Heap.get?_push_of_some ob e, .refl o⟩, fun b o e => ⟨o, Heap.get?_push_of_some ob e⟩⟩

/-- an object of the small heap changed -/
theorem RelH.change {W : Wd} {ρ : List Addr} {H : H} {s : Shared} (x : RelH W ρ H s) {i : Nat} {a : Addr} {o o₁ : O} {h' : Heap} {tk : Nat} (hi : ρ[i]? = some a) (h1 : H[i]? = some o₁) (hf : ∀ vs, o₁ ≠ .frozen vs)
    (ho : OR W ρ h' a o) (hs : Heap.SameBut a s.heap h') : RelH W ρ (H.set i o) { s with heap := h', toks := tk } := by
  have other : ∀ b, b ≠ a → h'.get? b = s.heap.get? b := fun b hb => hs.2 b hb
  have hn : W.h₀.get? a = none := by
    rcases x.new i a hi with ⟨vs, e⟩ | e
    · rw [h1] at e; cases e; exact absurd rfl (hf vs)
    · exact e
  have hl : i < H.length := (List.getElem?_eq_some_iff.mp h1).1
  refine ⟨fun b o e => ?_, x.os, x.gens, ⟨by simp [x.heap.len], fun j o' e => ?_⟩, x.nodup, fun j b e => ?_⟩
  · rw [other b fun q => by rw [q, hn] at e; cases e]; exact x.keep b o e
  · by_cases hj : i = j
    · subst hj
      rw [List.getElem?_set_self hl] at e
      cases e
      exact ⟨a, hi, ho⟩
    · rw [List.getElem?_set_ne hj] at e
      obtain ⟨b, hb, r⟩ := x.heap.obj j o' e
      have hba : b ≠ a := fun q => by
        subst q
        exact hj ((List.getElem?_inj (List.getElem?_eq_some_iff.mp hi).1 x.nodup).mp (hi.trans hb.symm))
      exact ⟨b, hb, r.kp fun o e => ⟨o, by rw [other b hba]; exact e, .refl o⟩⟩
  · by_cases hj : i = j
    · subst hj; rw [hi] at e; cases e; exact .inr hn
    · rw [List.getElem?_set_ne hj]; exact x.new j b e
theorem Rel.change {W : Wd} {env : Env} {ρ : List Addr} {σ : Sto} {H : H} {s : Shared} (x : Rel W env ρ σ H s) {i : Nat} {a : Addr} {o o₁ : O} {h' : Heap} {tk : Nat} (hi : ρ[i]? = some a) (h1 : H[i]? = some o₁) (hf : ∀ vs, o₁ ≠ .frozen vs)
    (ho : OR W ρ h' a o) (hs : Heap.SameBut a s.heap h') : Rel W env ρ σ (H.set i o) { s with heap := h', toks := tk } :=
  ⟨x.toRelH.change hi h1 hf ho hs, x.env.kp fun b o e hb => ⟨o, by rw [show h'.get? b = s.heap.get? b from hs.2 b fun q => hb (q ▸ List.mem_of_getElem? hi)]; exact e, .refl o⟩⟩
theorem Step.change {own : Addr → Prop} {ρ : List Addr} {s : Shared} {i : Nat} {a : Addr} {h' : Heap} {tk : Nat} (hi : ρ[i]? = some a) (hs : Heap.SameBut a s.heap h') (hl : ∃ o, h'.get? a = some o) :
    Step own ρ s ρ { s with heap := h', toks := tk } :=
  ⟨⟨[], by simp, by simp⟩, fun b o e hb _ => ⟨o, by rw [show h'.get? b = s.heap.get? b from hs.2 b fun q => hb (q ▸ List.mem_of_getElem? hi)]; exact e, .refl o⟩, fun b o e => by
    by_cases q : b = a
    · subst q; exact hl
    · exact ⟨o, by rw [show h'.get? b = s.heap.get? b from hs.2 b q]; exact e⟩⟩
/-- a frame behind a step that owns nothing of it -/
theorem EnvR.step {W : Wd} {env : Env} {ρ ρ' : List Addr} {σ : Sto} {own : Addr → Prop} {s s' : Shared} (x : EnvR W env ρ σ s.heap) (st : Step own ρ s ρ' s')
    (hl : ¬ own env.locals) (hc : ∀ n c, env.kindOf n = some .cell ∨ env.kindOf n = some .free → env.cells.lookup n = some c → ¬ own c) : EnvR W env ρ' σ s'.heap := by
  obtain ⟨δ, rfl, nw⟩ := st.ext
  have x' : EnvR W env ρ σ s'.heap := by
    refine ⟨x.kind, x.glob, x.blt, ?_, fun n hn => ?_, x.inj, x.loc, x.new⟩
    · obtain ⟨m, hm, r⟩ := x.ns
      exact ⟨m, ns_kp hm fun o e => st.keep _ o e x.loc hl, r⟩
    · obtain ⟨c, y, h1, h2, h3, h4, h5⟩ := x.cell n hn
      exact ⟨c, y, h1, isCell_kp h2 fun o e => st.keep _ o e h3 (hc n c hn h1), h3, h4, h5⟩
  refine x'.mono (fun hm => ?_) fun n c hk hlk hm => ?_
  · obtain ⟨o, e⟩ := x.alive; rw [nw _ hm] at e; cases e
  · obtain ⟨o, e⟩ := x.cellAlive hk hlk; rw [nw _ hm] at e; cases e
end Mine

set_option autoImplicit false
set_option linter.unusedVariables false
namespace Mine
open PySem PyProof.Rows

noncomputable def biName : Bi → Str
  | .len => "len" | .all => "all" | .any => "any" | .list => "list" | .int => "int" | .max => "max" | .min => "min" | .tuple => "tuple" | .sorted => "sorted" | .set => "set"
noncomputable def biVal : Bi → Value
  | .len => .builtin "len" | .all => .builtin "all" | .any => .builtin "any" | .list => .type "list" | .int => .type "int" | .max => .builtin "max" | .min => .builtin "min" | .tuple => .type "tuple"
  | .sorted => .builtin "sorted" | .set => .type "set"
noncomputable def meName : Me → Str
  | .append => "append" | .index => "index" | .pop => "pop" | .clear => "clear"
noncomputable def tyName (T : Tab) : Ty → Option Str
  | .int => some "int" | .bool => some "bool" | .list => some "list" | .tuple => some "tuple" | .str => some "str" | .valueError => some "ValueError" | .exc k => T.clss[k]?

noncomputable def isV (sc : Scope) (n : Str) : Bool := match sc.names.lookup n with
  | some .local => true
  | some .cell => true
  | some .free => true
  | _ => false
noncomputable def isG (sc : Scope) (n : Str) : Bool := sc.names.lookup n == some .globalImplicit
noncomputable def okName (n : Str) : Bool := !(n == ("__debug__" : Str)) && !(n == ("__classdict__" : Str))
noncomputable def notSet : Expr → Bool
  | .Set .. => false
  | _ => true
noncomputable def notCall : Expr → Bool
  | .Call .. => false
  | _ => true
noncomputable def notStar : Expr → Bool
  | .Starred .. => false
  | _ => true

noncomputable def plainTy : Ty → Bool
  | .exc _ => false
  | .valueError => false
  | _ => true

/-- a comprehension's own scope is such as the walk takes -/
noncomputable def compScopeOk (sc outer : Scope) : Bool :=
  decide (sc.kind = .function) && sc.names.all (fun x => decide (x.2 = .local → sc.names.lookup x.1 = some .local)) &&
  sc.names.all (fun x => decide (x.2 = .free → (outer.names.lookup x.1 = some .cell ∨ outer.names.lookup x.1 = some .free) ∧ sc.names.lookup x.1 = some .free)) &&
  sc.names.all (fun x => decide (x.2 = .cell → sc.names.lookup x.1 = some .cell)) && sc.names.all (fun x => decide (x.2 ≠ .globalExplicit)) && decide ((sc.names.map (·.1)).Nodup)

mutual
/-- an expression is what its small form says -/
noncomputable def chk (T : Tab) : X → Scope → Expr → Bool
  | .none, sc, e => match e with | .Constant .none _ _ => true | _ => false
  | .bool b, sc, e => match e with | .Constant (.bool b') _ _ => b == b' | _ => false
  | .int i, sc, e => match e with | .Constant (.int i') _ _ => decide (i = i') | _ => false
  | .str x, sc, e => match e with | .Constant (.str x') _ _ => decide (x = x') | _ => false
  | .var i, sc, e => match e with | .Name n _ => decide (T.vars[i]? = some n) && isV sc n && okName n | _ => false
  | .glob i, sc, e => match e with | .Name n _ => decide (T.glbs[i]? = some n) && isG sc n && okName n | _ => false
  | .bin op a b, sc, e => match e with | .BinOp l op' r _ => decide (op = op') && chk T a sc l && chk T b sc r | _ => false
  | .neg a, sc, e => match e with | .UnaryOp .USub x _ => chk T a sc x | _ => false
  | .not a, sc, e => match e with | .UnaryOp .Not x _ => chk T a sc x | _ => false
  | .bop op es, sc, e => match e with | .BoolOp op' vs _ => decide (op = op') && chkL T es sc vs | _ => false
  | .ite t a b, sc, e => match e with | .IfExp t' a' b' _ => chk T t sc t' && chk T a sc a' && chk T b sc b' | _ => false
  | .cmp a ops bs, sc, e => match e with | .Compare l ops' rs _ => decide (ops = ops') && decide (ops.length = bs.length) && chk T a sc l && chkL T bs sc rs | _ => false
  | .call f args, sc, e => match e with | .Call (.Name n _) args' [] _ => decide (T.fns[f]? = some (some n)) && isG sc n && okName n && chkL T args sc args' | _ => false
  | .bi b args, sc, e => match e with | .Call (.Name n _) args' [] _ => decide (biName b = n) && isG sc n && okName n && chkL T args sc args' | _ => false
  | .isi a t, sc, e => match e with
    | .Call (.Name n _) [a', .Name c _] [] _ => decide (n = "isinstance") && isG sc n && okName n && decide (tyName T t = some c) && isG sc c && okName c && plainTy t && chk T a sc a'
    | _ => false
  | .meth m o args, sc, e => match e with | .Call (.Attribute o' n ap) args' [] p => decide (meName m = n) && notCall o' && (ap.endLine == p.line) && decide (args'.length < 9) && chk T o sc o' && chkL T args sc args' | _ => false
  | .sub o i, sc, e => match e with | .Subscript o' i' _ => chk T o sc o' && chk T i sc i' | _ => false
  | .list es, sc, e => match e with | .List es' _ => chkL T es sc es' | _ => false
  | .tup es, sc, e => match e with | .Tuple es' _ _ => chkL T es sc es' | _ => false
  | .dict0, sc, e => false
  | .comp elt v it ifs, sc, e => match e with
    | .ListComp elt' [⟨.Name n _, it', ifs', k⟩] sc' _ => decide (k = 0) && decide (T.vars[v]? = some n) && (decide (sc'.names.lookup n = some .local) || decide (sc'.names.lookup n = some .cell)) && compScopeOk sc' sc && sc'.names.all (fun x => decide ((x.2 = .local ∨ x.2 = .cell) → x.1 = n ∨ x.1 ∉ T.vars)) && notSet it' && chkI T it sc it' && chkL T ifs sc' ifs' && chk T elt sc' elt'
    | _ => false
noncomputable def chkL (T : Tab) : List X → Scope → List Expr → Bool
  | [], sc, es => match es with | [] => true | _ => false
  | x :: xs, sc, es => match es with | e :: es => chk T x sc e && chkL T xs sc es | _ => false
noncomputable def chkI (T : Tab) : It → Scope → Expr → Bool
  | .range args, sc, e => match e with | .Call (.Name n _) args' [] _ => decide (n = "range") && isG sc n && okName n && chkL T args sc args' | _ => false
  | .val x, sc, e => chk T x sc e
end

noncomputable def AOk (A : Around) (n : Nat) : Prop := A.handled = none ∧ A.depth + n < 900 ∧ A.units + 8 * n + 200 < 9000

/-- an exception on its way -/
noncomputable def ExcAt (W : Wd) (ρ : List Addr) (e : Value) (c : Nat) (h : Heap) : Prop :=
  ∃ a o C vs a0, e = .ref a ∧ a ∉ ρ ∧ W.h₀.get? a = none ∧ h.get? a = some o ∧ W.cls c = some C ∧ o.cls = C ∧ o.data = .fields vs ∧ vs[0]? = some a0 ∧
    (vs[1]? = some .none ∨ ∃ T oT ts, vs[1]? = some (.ref T) ∧ T ≠ a ∧ T ∉ ρ ∧ W.h₀.get? T = none ∧ h.get? T = some oT ∧ oT.data = .fields ts ∧ ts[3]? = some .none)

noncomputable def Post {α β : Type} (W : Wd) (env : Env) (ρ : List Addr) (σ : Sto) (s : Shared) (rel : List Addr → α → β → Prop) (r : R α) (Q : β → Shared → Prop) (E : Value → Shared → Prop) : Prop := match r with
  | .ok v H' => ∀ v' ρ' s', Step no ρ s ρ' s' → Rel W env ρ' σ H' s' → rel ρ' v v' → Q v' s'
  | .exc c H' => ∀ e ρ' s', Step no ρ s ρ' s' → Rel W env ρ' σ H' s' → ExcAt W ρ' e c s'.heap → E e s'
  | .stuck => False

theorem Post.bind {α β γ δ : Type} {W : Wd} {env : Env} {ρ : List Addr} {σ : Sto} {s : Shared} {rel : List Addr → α → β → Prop} {rel' : List Addr → γ → δ → Prop} {r : R α} {f : α → H → R γ}
    {Q : δ → Shared → Prop} {E : Value → Shared → Prop} (h : Post W env ρ σ s rel' (r.bind f) Q E) :
    Post W env ρ σ s rel r (fun v' s1 => ∃ v H1 ρ1, Step no ρ s ρ1 s1 ∧ Rel W env ρ1 σ H1 s1 ∧ rel ρ1 v v' ∧ Post W env ρ1 σ s1 rel' (f v H1) Q E) E := by
  cases r with
  | stuck => exact h
  | exc c H' => exact h
  | ok v H1 =>
    intro v' ρ1 s1 st r1 vr
    refine ⟨v, H1, ρ1, st, r1, vr, ?_⟩
    have h' : Post W env ρ σ s rel' (f v H1) Q E := h
    revert h'
    generalize f v H1 = q
    intro h'
    cases q with
    | stuck => exact h'
    | exc c H' => exact fun e ρ' s' st' => h' e ρ' s' (st.trans st')
    | ok w H' => exact fun w' ρ' s' st' => h' w' ρ' s' (st.trans st')

section
variable (W : Wd) (n : Nat)

/-- a tree of the model does what a small run does -/
noncomputable def Sim {α β : Type} (env : Env) (rel : List Addr → α → β → Prop) (t : Sem β) (f : Sto → H → R α) : Prop :=
  ∀ A ρ σ H s Q E, AOk A n → Rel W env ρ σ H s → Post W env ρ σ s rel (f σ H) Q E → wpAny (model W.prog W.w) A t Q E s

end

theorem AOk.h {A : Around} {n : Nat} (x : AOk A n) : A.handled = none := x.1

section
variable {W : Wd} {n : Nat} {env : Env} {C : Cx}

theorem post_here {α β : Type} {ρ : List Addr} {σ : Sto} {H : H} {s : Shared} {rel : List Addr → α → β → Prop} {v : α} {v' : β} {Q : β → Shared → Prop} {E : Value → Shared → Prop}
    (hR : Rel W env ρ σ H s) (h : Post W env ρ σ s rel (.ok v H) Q E) (hv : rel ρ v v') (tk : Nat) : Q v' { s with toks := tk } :=
  h v' ρ _ (.toks ρ s tk) hR.toks hv
theorem post_same {α β : Type} {ρ : List Addr} {σ : Sto} {H : H} {s : Shared} {rel : List Addr → α → β → Prop} {v : α} {v' : β} {Q : β → Shared → Prop} {E : Value → Shared → Prop}
    (hR : Rel W env ρ σ H s) (h : Post W env ρ σ s rel (.ok v H) Q E) (hv : rel ρ v v') : Q v' s :=
  h v' ρ _ (.refl ρ s) hR hv

theorem sim_none (k pos) : Sim W n env VR (eval (.Constant .none k pos) env) (ev C .none) :=
  fun A ρ σ H s Q E hA hR hP => Constant_none (post_same hR hP VR.none)
theorem sim_bool (b k pos) : Sim W n env VR (eval (.Constant (.bool b) k pos) env) (ev C (.bool b)) :=
  fun A ρ σ H s Q E hA hR hP => Constant_bool (post_same hR hP (VR.bool b))
theorem sim_int (i k pos) : Sim W n env VR (eval (.Constant (.int i) k pos) env) (ev C (.int i)) :=
  fun A ρ σ H s Q E hA hR hP => wpAny_Constant_int (post_here hR hP (VR.int i _) _)
theorem sim_str (x k pos) : Sim W n env VR (eval (.Constant (.str x) k pos) env) (ev C (.str x)) :=
  fun A ρ σ H s Q E hA hR hP => Calls.Constant_str (post_here hR hP (VR.str x _) _)

theorem sim_bin {a b : X} {l r : Expr} {op : Operator} {pos : Pos} (ha : Sim W n env VR (eval l env) (ev C a)) (hb : Sim W n env VR (eval r env) (ev C b))
    (hop : ∀ A ρ σ H s Q E x y x' y', AOk A n → Rel W env ρ σ H s → VR ρ x x' → VR ρ y y' → Post W env ρ σ s VR (binV op x y H) Q E → wpAny (model W.prog W.w) A (binaryOp op x' y') Q E s) :
    Sim W n env VR (eval (.BinOp l op r pos) env) (ev C (.bin op a b)) := by
  intro A ρ σ H s Q E hA hR hP
  rw [ev] at hP
  refine wpAny_BinOp (wpAny_mono (ha A ρ σ H s _ _ hA hR hP.bind) ?_ fun _ _ e => e)
  rintro x' s1 ⟨x, H1, ρ1, st1, r1, v1, hP1⟩
  refine wpAny_mono (hb A ρ1 σ H1 s1 _ _ hA r1 hP1.bind) ?_ fun _ _ e => e
  rintro y' s2 ⟨y, H2, ρ2, st2, r2, v2, hP2⟩
  exact hop A ρ2 σ H2 s2 Q E x y x' y' hA r2 (st2.vr v1) v2 hP2
end
end Mine

set_option autoImplicit false
set_option linter.unusedVariables false
namespace Mine
open PySem PyProof.Rows

section
variable {W : Wd} {n : Nat} {env : Env} {C : Cx} {A : Around} {ρ : List Addr} {σ : Sto} {H : H} {s : Shared} {E : Value → Shared → Prop}

theorem truth_sound {v : V} {v' : Value} {b : Bool} {Q : Bool → Shared → Prop} (hv : VR ρ v v') (ht : truthV v = some b) (h : Q b s) : wpAny (model W.prog W.w) A (truthy v') Q E s := by
  cases hv with
  | none => simp [truthV] at ht; subst ht; exact truthy_none h
  | bool c => simp [truthV] at ht; subst ht; exact wpAny_truthy_bool h
  | int i t => simp [truthV] at ht; subst ht; exact truthy_int h
  | str => simp [truthV] at ht
  | ref => simp [truthV] at ht

theorem rd_depth : ∀ {k : Nat} {v : V} {d : PyData}, rd k H v = some d → d.depth ≤ k
  | 0, v, d, h => by simp [rd] at h
  | k + 1, v, d, h => by
    have all : ∀ (vs : List V) (ds : List PyData), mapO (rd k H) vs = some ds → PyData.depthAll ds ≤ k := by
      intro vs
      induction vs with
      | nil => intro ds e; simp [mapO] at e; subst e; simp [PyData.depthAll]
      | cons x xs ih =>
        intro ds e
        simp only [mapO] at e
        split at e
        · rename_i b hb
          split at e
          · rename_i bs hbs
            cases e
            simp only [PyData.depthAll]
            exact Nat.max_le.mpr ⟨rd_depth hb, ih bs hbs⟩
          · cases e
        · cases e
    cases v with
    | none => simp [rd] at h; subst h; simp [PyData.depth]
    | bool b => simp [rd] at h; subst h; simp [PyData.depth]
    | int i => simp [rd] at h; subst h; simp [PyData.depth]
    | str x => simp [rd] at h; subst h; simp [PyData.depth]
    | ref a =>
      simp only [rd] at h
      split at h
      · rename_i vs e
        obtain ⟨ds, h1, rfl⟩ := Option.map_eq_some_iff.mp h
        simp only [PyData.depth]
        exact Nat.succ_le_succ (all vs ds h1)
      · rename_i vs e
        obtain ⟨ds, h1, rfl⟩ := Option.map_eq_some_iff.mp h
        simp only [PyData.depth]
        exact Nat.succ_le_succ (all vs ds h1)
      · cases h

theorem rd_reads (hR : HR W ρ H s.heap) : ∀ {k : Nat} {v : V} {x : Value} {d : PyData}, rd k H v = some d → VR ρ v x → ∃ as, Reads s.heap x d as
  | 0, v, x, d, h, _ => by simp [rd] at h
  | k + 1, v, x, d, h, hv => by
    have all : ∀ (vs : List V) (xs : List Value) (ds : List PyData), mapO (rd k H) vs = some ds → VRs ρ vs xs → ∃ as, ReadsAll s.heap xs ds as := by
      intro vs
      induction vs with
      | nil => intro xs ds e r; simp [mapO] at e; subst e; cases r; exact ⟨_, .nil⟩
      | cons y ys ih =>
        intro xs ds e r
        simp only [mapO] at e
        split at e
        · rename_i b hb
          split at e
          · rename_i bs hbs
            cases e
            cases r with
            | cons r1 r2 =>
              obtain ⟨as, q1⟩ := rd_reads hR hb r1
              obtain ⟨bs', q2⟩ := ih _ bs hbs r2
              exact ⟨_, .cons q1 q2⟩
          · cases e
        · cases e
    cases hv with
    | none => simp [rd] at h; subst h; exact ⟨_, .none⟩
    | bool b => simp [rd] at h; subst h; exact ⟨_, .bool b⟩
    | int i t => simp [rd] at h; subst h; exact ⟨_, .int i t⟩
    | str y t => simp [rd] at h; subst h; exact ⟨_, .str y t⟩
    | ref i a e =>
      simp only [rd] at h
      split at h
      · rename_i vs e1
        obtain ⟨ds, h1, rfl⟩ := Option.map_eq_some_iff.mp h
        obtain ⟨a', ea, items, ⟨m, ho⟩, r⟩ := hR.obj i _ e1
        rw [e] at ea; cases ea
        obtain ⟨as, q⟩ := all vs items.toList ds h1 r
        exact ⟨_, .list ho rfl rfl q⟩
      · rename_i vs e1
        obtain ⟨ds, h1, rfl⟩ := Option.map_eq_some_iff.mp h
        obtain ⟨a', ea, items, m, ho, r⟩ := hR.obj i _ e1
        rw [e] at ea; cases ea
        obtain ⟨as, q⟩ := all vs items.toList ds h1 r
        exact ⟨_, .tuple ho rfl rfl q⟩
      · cases h

theorem eq_sound {a b : V} {a' b' : Value} {t : Bool} {Q : Value → Shared → Prop} (hA : AOk A n) (hR : Rel W env ρ σ H s) (ha : VR ρ a a') (hb : VR ρ b b') (ht : eqV H a b = some t) (h : Q (.bool t) s) :
    wpAny (model W.prog W.w) A (compareOp .Eq a' b') Q E s := by
  unfold eqV at ht
  split at ht
  · rename_i x y hx hy
    split at ht
    · rename_i hc
      cases ht
      obtain ⟨as, ra⟩ := rd_reads hR.heap hx ha
      obtain ⟨bs, rb⟩ := rd_reads hR.heap hy hb
      obtain ⟨c1, c2⟩ := Bool.and_eq_true_iff.mp hc
      have d1 := rd_depth hx
      have d2 := rd_depth hy
      refine eq_dataH ra rb ?_ ?_ ?_ h
      · simp [SeqAt.shaped, c1]; omega
      · simp [SeqAt.shaped, c2]; omega
      · have := hA.2.2; simp only [cLine]; omega
    · cases ht
  · cases ht
theorem ne_sound {a b : V} {a' b' : Value} {t : Bool} {Q : Value → Shared → Prop} (hA : AOk A n) (hR : Rel W env ρ σ H s) (ha : VR ρ a a') (hb : VR ρ b b') (ht : eqV H a b = some t) (h : Q (.bool (!t)) s) :
    wpAny (model W.prog W.w) A (compareOp .NotEq a' b') Q E s := by
  unfold eqV at ht
  split at ht
  · rename_i x y hx hy
    split at ht
    · rename_i hc
      cases ht
      obtain ⟨as, ra⟩ := rd_reads hR.heap hx ha
      obtain ⟨bs, rb⟩ := rd_reads hR.heap hy hb
      obtain ⟨c1, c2⟩ := Bool.and_eq_true_iff.mp hc
      have d1 := rd_depth hx
      have d2 := rd_depth hy
      refine ne_dataH ra rb ?_ ?_ ?_ h
      · simp [SeqAt.shaped, c1]; omega
      · simp [SeqAt.shaped, c2]; omega
      · have := hA.2.2; simp only [cLine]; omega
    · cases ht
  · cases ht
theorem in_sound {a b : V} {a' b' : Value} {t : Bool} {Q : Value → Shared → Prop} (hA : AOk A n) (hR : Rel W env ρ σ H s) (ha : VR ρ a a') (hb : VR ρ b b') (ht : inV H a b = some t) (h : Q (.bool t) s) :
    wpAny (model W.prog W.w) A (compareOp .In a' b') Q E s := by
  unfold inV at ht
  split at ht
  · rename_i xs d hx hy
    split at ht
    · rename_i hc
      cases ht
      obtain ⟨as, rb⟩ := rd_reads hR.heap hx hb
      obtain ⟨bs, ra⟩ := rd_reads hR.heap hy ha
      obtain ⟨c1, c2⟩ := Bool.and_eq_true_iff.mp hc
      have d2 := rd_depth hy
      refine SeqAt.in_list_reads rb ra c1 c2 ?_ h
      have h1 : min (PyData.depthAll xs) d.depth ≤ d.depth := Nat.min_le_right _ _
      have := hA.2.2; simp only [cLine]; omega
    · cases ht
  · cases ht
theorem notIn_sound {a b : V} {a' b' : Value} {t : Bool} {Q : Value → Shared → Prop} (hA : AOk A n) (hR : Rel W env ρ σ H s) (ha : VR ρ a a') (hb : VR ρ b b') (ht : inV H a b = some t) (h : Q (.bool (!t)) s) :
    wpAny (model W.prog W.w) A (compareOp .NotIn a' b') Q E s := by
  unfold inV at ht
  split at ht
  · rename_i xs d hx hy
    split at ht
    · rename_i hc
      cases ht
      obtain ⟨as, rb⟩ := rd_reads hR.heap hx hb
      obtain ⟨bs, ra⟩ := rd_reads hR.heap hy ha
      obtain ⟨c1, c2⟩ := Bool.and_eq_true_iff.mp hc
      have d2 := rd_depth hy
      refine SeqAt.notIn_list_reads rb ra c1 c2 ?_ h
      have h1 : min (PyData.depthAll xs) d.depth ≤ d.depth := Nat.min_le_right _ _
      have := hA.2.2; simp only [cLine]; omega
    · cases ht
  · cases ht

theorem cmp_sound {op : CmpOp} {a b : V} {a' b' : Value} {t : Bool} {Q : Value → Shared → Prop} (hA : AOk A n) (hR : Rel W env ρ σ H s) (ha : VR ρ a a') (hb : VR ρ b b') (ht : cmpV op a b H = some t) (h : Q (.bool t) s) :
    wpAny (model W.prog W.w) A (compareOp op a' b') Q E s := by
  cases op with
  | Eq => exact eq_sound hA hR ha hb ht h
  | NotEq =>
    obtain ⟨u, hu, rfl⟩ := Option.map_eq_some_iff.mp ht
    exact ne_sound hA hR ha hb hu h
  | In => exact in_sound hA hR ha hb ht h
  | NotIn =>
    obtain ⟨u, hu, rfl⟩ := Option.map_eq_some_iff.mp ht
    exact notIn_sound hA hR ha hb hu h
  | Lt => cases ha <;> cases hb <;> cases ht; exact lt_int h
  | LtE => cases ha <;> cases hb <;> cases ht; exact le_int h
  | Gt => cases ha <;> cases hb <;> cases ht; exact gt_int h
  | GtE => cases ha <;> cases hb <;> cases ht; exact ge_int h
  | Is =>
    cases hb <;> cases ht
    cases ha <;> exact wpAny_is_plain (by rfl) h
  | IsNot =>
    cases hb <;> cases ht
    cases ha <;> exact wpAny_isNot_plain (by rfl) h
end
end Mine

set_option autoImplicit false
set_option linter.unusedVariables false
namespace Mine
open PySem PyProof.Rows

section
variable {W : Wd} {n : Nat} {env : Env} {C : Cx} {A : Around} {ρ : List Addr} {σ : Sto} {H : H} {s : Shared} {E : Value → Shared → Prop}

theorem big_le : big ≤ sizeLine := by simp only [big, sizeLine]; omega

theorem RelH.list {i : Nat} {a : Addr} {vs : List V} (hR : RelH W ρ H s) (hi : ρ[i]? = some a) (e : H[i]? = some (.list vs)) : ∃ items, s.heap.PlainList a items ∧ VRs ρ vs items.toList := by
  obtain ⟨b, hb, r⟩ := hR.heap.obj i _ e
  rw [hi] at hb; cases hb; exact r
theorem RelH.tup {i : Nat} {a : Addr} {vs : List V} (hR : RelH W ρ H s) (hi : ρ[i]? = some a) (e : H[i]? = some (.tuple vs)) : ∃ items n, s.heap.get? a = some { cls := .type "tuple", data := .seq items n } ∧ VRs ρ vs items.toList := by
  obtain ⟨b, hb, r⟩ := hR.heap.obj i _ e
  rw [hi] at hb; cases hb; exact r

/-- a new list -/
theorem newlist_sound {vs : List V} {xs : List Value} {Q : Value → Shared → Prop} (hR : Rel W env ρ σ H s) (hv : VRs ρ vs xs) (hs : vs.length ≤ big) (hP : Post W env ρ σ s VR (alloc (.list vs) H) Q E) :
    wpAny (model W.prog W.w) A (newList xs) Q E s := by
  have hb := big_le
  refine wpAny_newObj_type ?_ (by show xs.toArray.size ≤ sizeLine; rw [List.size_toArray, ← hv.length]; omega)
  refine hP _ _ _ Step.push (Rel.push hR (tk := s.toks) ?_) (.ref _ _ (by rw [← hR.heap.len]; simp))
  exact ⟨xs.toArray, ⟨_, Heap.get?_push_size _ rfl⟩, by simpa using hv.mono⟩
theorem newtuple_sound {vs : List V} {xs : List Value} {Q : Value → Shared → Prop} (hR : Rel W env ρ σ H s) (hv : VRs ρ vs xs) (hs : vs.length ≤ big) (hP : Post W env ρ σ s VR (alloc (.tuple vs) H) Q E) :
    wpAny (model W.prog W.w) A (newTuple xs) Q E s := by
  have hb := big_le
  refine wpAny_newObj_type ?_ (by show xs.toArray.size ≤ sizeLine; rw [List.size_toArray, ← hv.length]; omega)
  refine hP _ _ _ Step.push (Rel.push hR (tk := s.toks) ?_) (.ref _ _ (by rw [← hR.heap.len]; simp))
  exact ⟨xs.toArray, _, Heap.get?_push_size _ rfl, by simpa using hv.mono⟩

theorem small_bits {x : Int} (h : small x = true) : Builtin.Int.intBits x ≤ 64 := by
  simp only [small, Bool.and_eq_true, decide_eq_true_eq] at h
  exact intBits_le_64 (by omega) (by omega)

theorem bin_sound {op : Operator} {x y : V} {x' y' : Value} {Q : Value → Shared → Prop} (hA : AOk A n) (hR : Rel W env ρ σ H s) (hx : VR ρ x x') (hy : VR ρ y y') (hP : Post W env ρ σ s VR (binV op x y H) Q E) :
    wpAny (model W.prog W.w) A (binaryOp op x' y') Q E s := by
  cases hx with
  | int a t =>
    cases hy with
    | int b u =>
      cases op with
      | Add => exact PyProof.Rows.add_int (post_here hR hP (VR.int _ _) _)
      | Sub => exact PyProof.Rows.sub_int (post_here hR hP (VR.int _ _) _)
      | Mult =>
        change Post W env ρ σ s VR (if small a || small b then .ok (.int (a * b)) H else .stuck) Q E at hP
        split at hP
        · rename_i hm
          refine PyProof.Rows.mul_int (post_here hR hP (VR.int _ _) _) ?_
          rcases Bool.or_eq_true_iff.mp hm with hm | hm
          · exact IntMulOk.of_left (small_bits hm)
          · exact IntMulOk.of_right (small_bits hm)
        · exact hP.elim
      | FloorDiv =>
        change Post W env ρ σ s VR (if 0 < b ∧ b < 1073741824 then .ok (.int (a / b)) H else .stuck) Q E at hP
        split at hP
        · rename_i hm
          have e : a.fdiv b = a / b := Int.fdiv_eq_ediv_of_nonneg a (by omega)
          exact PyProof.Rows.floordiv_int (by omega) (by rw [e]; exact post_here hR hP (VR.int _ _) _) (Or.inl (PyProof.noPylong_small (by omega)))
        · exact hP.elim
      | Mod =>
        change Post W env ρ σ s VR (if 0 < b then .ok (.int (a % b)) H else .stuck) Q E at hP
        split at hP
        · rename_i hm
          have e : a.fmod b = a % b := Int.fmod_eq_emod_of_nonneg a (by omega)
          exact PyProof.Rows.mod_int' (by omega) (by rw [e]; exact post_here hR hP (VR.int _ _) _)
        · exact hP.elim
      | _ => exact hP.elim
    | _ => exact hP.elim
  | ref i a ea =>
    cases hy with
    | ref j b eb =>
      cases op with
      | Add =>
        dsimp only [binV, refOp] at hP
        split at hP
        · rename_i xs e1
          split at hP
          · rename_i ys e2
            split at hP
            rename_i hl
            rotate_left
            · exact hP.elim
            obtain ⟨its, ⟨m, ho⟩, r1⟩ := hR.toRelH.list ea e1
            obtain ⟨its2, ⟨m2, ho2⟩, r2⟩ := hR.toRelH.list eb e2
            have hb := big_le
            have l1 := r1.length
            have l2 := r2.length
            simp only [Array.length_toList] at l1 l2
            refine concat_meets ⟨_, ho, rfl⟩ ⟨_, ho2, rfl⟩ noFill_list_add seq_list_add PySem.F.slot_list_add PySem.F.entry_list_add (PySem.F.args_list_add_2 _ _) (list_addW a b its its2 m m2 none none #[] #[] (by omega)) ⟨ho, ho2, ?_⟩
            refine hP _ _ _ Step.push (Rel.push hR ?_) (.ref _ _ (by rw [← hR.heap.len]; simp))
            exact ⟨its ++ its2, ⟨_, Heap.get?_push_size _ rfl⟩, by simpa using (r1.append r2).mono⟩
          · exact hP.elim
        · exact hP.elim
      | _ => exact hP.elim
    | _ => exact hP.elim
  | _ => cases hy <;> exact hP.elim
end
end Mine

set_option autoImplicit false
set_option linter.unusedVariables false
namespace Mine
open PySem PyProof.Rows

structure ScOk (env : Env) (sc : Scope) : Prop where
  loc : ∀ n, sc.names.lookup n = some .local → env.kindOf n = some .local
  cel : ∀ n, sc.names.lookup n = some .cell ∨ sc.names.lookup n = some .free → env.kindOf n = some .cell ∨ env.kindOf n = some .free
  glb : ∀ n, sc.names.lookup n = some .globalImplicit → env.kindOf n = some .globalImplicit

noncomputable def PostH (W : Wd) (ρ : List Addr) (s : Shared) (r : R V) (Q : Value → Shared → Prop) (E : Value → Shared → Prop) : Prop := match r with
  | .ok v H' => ∀ v' ρ' s', Step no ρ s ρ' s' → RelH W ρ' H' s' → VR ρ' v v' → Q v' s'
  | .exc c H' => ∀ e ρ' s', Step no ρ s ρ' s' → RelH W ρ' H' s' → ExcAt W ρ' e c s'.heap → E e s'
  | .stuck => False

/-- a called def does what its small form says -/
noncomputable def CallSim (W : Wd) (n : Nat) (f : Addr) (args : List V) (H : H) (r : R V) : Prop :=
  ∀ A ρ s Q E vals, AOk A n → RelH W ρ H s → VRs ρ args vals → PostH W ρ s r Q E → wpAny (model W.prog W.w) A (call (.ref f) vals []) Q E s

structure Base (W : Wd) (n : Nat) (C : Cx) : Prop where
  g : W.h₀.Ns mainGlobals W.mg
  b : W.h₀.Ns builtinsNs W.mb
  nolim : W.h₀.NoLimit
  nd : W.T.vars.Nodup
  gl : ∀ i nm v, W.T.glbs[i]? = some nm → C.G i = some v → ∃ x, W.mg nm = some x ∧ VR [] v x
  bi : ∀ b, W.mg (biName b) = none ∧ W.mb (biName b) = some (biVal b)
  isi : W.mg "isinstance" = none ∧ W.mb "isinstance" = some (.builtin "isinstance")
  rng : W.mg "range" = none ∧ W.mb "range" = some (.type "range")
  tyi : W.mg "int" = none ∧ W.mb "int" = some (.type "int")
  tyb : W.mg "bool" = none ∧ W.mb "bool" = some (.type "bool")
  tyl : W.mg "list" = none ∧ W.mb "list" = some (.type "list")
  tyt : W.mg "tuple" = none ∧ W.mb "tuple" = some (.type "tuple")
  tys : W.mg "str" = none ∧ W.mb "str" = some (.type "str")
  fn : ∀ (i : Nat) nm, W.T.fns[i]? = some (some nm) → ∃ fa o fd, W.mg nm = some (.ref fa) ∧ W.h₀.get? fa = some o ∧ o.data = .func fd ∧ ∀ args H, CallSim W n fa args H (C.F i args H)

section
variable {W : Wd} {n : Nat} {env : Env} {C : Cx}

theorem lookup_var {sc : Scope} {nm : Str} (h : isV sc nm = true) : sc.names.lookup nm = some .local ∨ sc.names.lookup nm = some .cell ∨ sc.names.lookup nm = some .free := by
  unfold isV at h
  split at h <;> simp_all

theorem okName_1 {nm : Str} (h : okName nm = true) : (nm == ("__debug__" : Str)) = false := by
  unfold okName at h; simp at h; simpa using h.1
theorem okName_2 {nm : Str} (h : okName nm = true) : (nm == ("__classdict__" : Str)) = false := by
  unfold okName at h; simp at h; simpa using h.2

theorem load_var {A : Around} {ρ : List Addr} {σ : Sto} {H : H} {s : Shared} {E : Value → Shared → Prop} {Q : Value → Shared → Prop} {i : Nat} {nm : Str} {v : V} {sc : Scope}
    (hsc : ScOk env sc) (hR : Rel W env ρ σ H s) (hi : W.T.vars[i]? = some nm) (hv : isV sc nm = true) (hn : okName nm = true) (hσ : σ i = some v)
    (h : ∀ v', VR ρ v v' → Q v' s) : wpAny (model W.prog W.w) A (loadName env nm) Q E s := by
  have viaCell : (env.kindOf nm = some .cell ∨ env.kindOf nm = some .free) → wpAny (model W.prog W.w) A (loadName env nm) Q E s := fun hk => by
    obtain ⟨c, x, h1, h2, _, _, h5⟩ := hR.env.cell nm hk
    obtain ⟨y, rfl, hy⟩ := h5 i v hσ hi
    rcases hk with hk | hk
    · exact wpAny_loadName_cell hR.env.kind hk h1 h2 (h y hy)
    · exact wpAny_loadName_free hR.env.kind hk h1 h2 (h y hy) (okName_2 hn)
  rcases lookup_var hv with e | e
  · have hk := hsc.loc nm e
    obtain ⟨m, hm, r⟩ := hR.env.ns
    obtain ⟨x, hx, hvx⟩ := r i v nm hσ hi hk
    exact wpAny_loadName_local hR.env.kind hk hm hx (h x hvx)
  · exact viaCell (hsc.cel nm e)

theorem sim_var {i : Nat} {nm : Str} {pos : Pos} {sc : Scope} (hsc : ScOk env sc) (hi : W.T.vars[i]? = some nm) (hv : isV sc nm = true) (hn : okName nm = true) :
    Sim W n env VR (eval (.Name nm pos) env) (ev C (.var i)) := by
  intro A ρ σ H s Q E hA hR hP
  rw [ev] at hP
  cases hσ : σ i with
  | none => rw [hσ] at hP; exact hP.elim
  | some v =>
    rw [hσ] at hP
    exact wpAny_Name (load_var hsc hR hi hv hn hσ fun v' hv' => post_same hR hP hv') (okName_1 hn)

/-- a name of the module's or a built-in one -/
theorem load_glob {A : Around} {ρ : List Addr} {σ : Sto} {H : H} {s : Shared} {E : Value → Shared → Prop} {Q : Value → Shared → Prop} {nm : Str} {x : Value} {pos : Pos} {sc : Scope} (B : Base W n C)
    (hsc : ScOk env sc) (hR : Rel W env ρ σ H s) (hg : isG sc nm = true) (hn : okName nm = true) (hx : W.mg nm = some x ∨ (W.mg nm = none ∧ W.mb nm = some x)) (h : Q x s) :
    wpAny (model W.prog W.w) A (eval (.Name nm pos) env) Q E s := by
  have hk := hsc.glb nm (by simpa [isG] using hg)
  refine Calls.Name_function_global hR.env.kind hk ?_ (okName_1 hn)
  have g' : s.heap.Ns env.globals W.mg := by rw [hR.env.glob]; exact B.g.keeps hR.keep
  have b' : s.heap.Ns env.builtins W.mb := by rw [hR.env.blt]; exact B.b.keeps hR.keep
  rcases hx with hx | ⟨h1, h2⟩
  · exact Calls.loadGlobal_global g' hx h
  · exact Calls.loadGlobal_builtin g' h1 b' h2 h

theorem VR.nil_all {v : V} {x : Value} (h : VR [] v x) (ρ : List Addr) : VR ρ v x := by
  have := h.mono (δ := ρ); simpa using this

theorem sim_glob {i : Nat} {nm : Str} {pos : Pos} {sc : Scope} (B : Base W n C) (hsc : ScOk env sc) (hi : W.T.glbs[i]? = some nm) (hg : isG sc nm = true) (hn : okName nm = true) :
    Sim W n env VR (eval (.Name nm pos) env) (ev C (.glob i)) := by
  intro A ρ σ H s Q E hA hR hP
  rw [ev] at hP
  cases hσ : C.G i with
  | none => rw [hσ] at hP; exact hP.elim
  | some v =>
    rw [hσ] at hP
    obtain ⟨x, hx, hv⟩ := B.gl i nm v hi hσ
    exact load_glob B hsc hR hg hn (.inl hx) (post_same hR hP (hv.nil_all ρ))

theorem sim_neg {a : X} {e : Expr} {pos : Pos} (ha : Sim W n env VR (eval e env) (ev C a)) : Sim W n env VR (eval (.UnaryOp .USub e pos) env) (ev C (.neg a)) := by
  intro A ρ σ H s Q E hA hR hP
  rw [ev] at hP
  refine UnaryOp_ (wpAny_mono (ha A ρ σ H s _ _ hA hR hP.bind) ?_ fun _ _ e => e)
  rintro x' s1 ⟨x, H1, ρ1, st1, r1, v1, hP1⟩
  cases v1 with
  | int i t => exact PyProof.Rows.neg_int (post_here r1 hP1 (VR.int _ _) _)
  | _ => exact hP1.elim

theorem sim_not {a : X} {e : Expr} {pos : Pos} (ha : Sim W n env VR (eval e env) (ev C a)) : Sim W n env VR (eval (.UnaryOp .Not e pos) env) (ev C (.not a)) := by
  intro A ρ σ H s Q E hA hR hP
  rw [ev] at hP
  refine UnaryOp_ (wpAny_mono (ha A ρ σ H s _ _ hA hR hP.bind) ?_ fun _ _ e => e)
  rintro x' s1 ⟨x, H1, ρ1, st1, r1, v1, hP1⟩
  cases ht : truthV x with
  | none => rw [ht] at hP1; exact hP1.elim
  | some t =>
    rw [ht] at hP1
    exact not_of (truth_sound v1 ht (post_same r1 hP1 (VR.bool _)))

/-- the elements of a list of expressions -/
inductive SimAll (W : Wd) (n : Nat) (env : Env) (C : Cx) : List X → List Expr → Prop where
  | nil : SimAll W n env C [] []
  | cons {x : X} {e : Expr} {xs : List X} {es : List Expr} : Sim W n env VR (eval e env) (ev C x) → notStar e = true → notSet e = true → SimAll W n env C xs es → SimAll W n env C (x :: xs) (e :: es)

noncomputable def trees (env : Env) (es : List Expr) : List (Bool × Sem Value) := es.map fun e => (false, eval e env)
theorem starEach_plain {xs : List X} {es : List Expr} (h : SimAll W n env C xs es) : starEach es env = trees env es := by
  induction h with
  | nil => rfl
  | @cons x e xs es _ hs _ _ ih =>
    rw [trees, List.map_cons, ← trees, ← ih]
    cases e <;> first | rfl | (simp [notStar] at hs)
theorem backTo_plain (pos : Pos) (env : Env) (es : List Expr) : backTo pos (trees env es) = trees env es := by
  unfold backTo trees
  rw [List.map_map]
  exact List.map_congr_left fun e _ => by simp
theorem trees_any (env : Env) (es : List Expr) : (trees env es).any (·.1) = false := by
  induction es with
  | nil => rfl
  | cons e es ih => simp [trees] at *

theorem sim_spliced {xs : List X} {es : List Expr} (h : SimAll W n env C xs es) : Sim W n env VRs (spliced (trees env es)) (evL C xs) := by
  induction h with
  | nil =>
    intro A ρ σ H s Q E hA hR hP
    rw [evL] at hP
    exact Calls.spliced_nil (post_same hR hP VRs.nil)
  | cons hx _ _ _ ih =>
    intro A ρ σ H s Q E hA hR hP
    rw [evL] at hP
    refine Calls.spliced_cons (wpAny_mono (hx A ρ σ H s _ _ hA hR hP.bind) ?_ fun _ _ e => e)
    rintro x' s1 ⟨x, H1, ρ1, st1, r1, v1, hP1⟩
    refine wpAny_mono (ih A ρ1 σ H1 s1 _ _ hA r1 hP1.bind) ?_ fun _ _ e => e
    rintro xs' s2 ⟨vs, H2, ρ2, st2, r2, v2, hP2⟩
    exact post_same r2 hP2 (VRs.cons (st2.vr v1) v2)

theorem sim_args {f : Value} {xs : List X} {es : List Expr} (h : SimAll W n env C xs es) :
    Sim W n env (fun ρ vs (a : Args) => VRs ρ vs a.pos ∧ a.kw = []) (evalArgs f true (trees env es) []) (evL C xs) := by
  intro A ρ σ H s Q E hA hR hP
  have hs := sim_spliced h A ρ σ H s (fun vs s' => Q ⟨vs, []⟩ s') E hA hR (by
    revert hP
    generalize evL C xs σ H = r
    intro hP
    cases r with
    | stuck => exact hP
    | exc c H' => exact hP
    | ok vs H' => exact fun v' ρ' s' st r v => hP ⟨v', []⟩ ρ' s' st r ⟨v, rfl⟩)
  cases h with
  | nil => exact PySem.evalArgs_none (post_same hR hP ⟨VRs.nil, rfl⟩)
  | cons => exact Calls.evalArgs_plain hs
end
end Mine

set_option autoImplicit false
set_option linter.unusedVariables false
namespace Mine
open PySem PyProof.Rows

section
variable {W : Wd} {n : Nat} {env : Env} {C : Cx}

theorem sim_bop {op : BoolOp} {xs : List X} {es : List Expr} (h : SimAll W n env C xs es) {pos : Pos} : Sim W n env VR (eval (.BoolOp op es pos) env) (evB C op xs) := by
  induction h with
  | nil => intro A ρ σ H s Q E hA hR hP; rw [evB] at hP; exact hP.elim
  | @cons x e xs es hx _ _ hall ih =>
    intro A ρ σ H s Q E hA hR hP
    cases hall with
    | nil => rw [evB] at hP; exact BoolOp_one (hx A ρ σ H s Q E hA hR hP)
    | @cons x2 e2 xs2 es2 _ _ _ _ =>
      rw [evB] at hP
      have key : wpAny (model W.prog W.w) A (eval e env) (fun v s₁ => wpAny (model W.prog W.w) A (truthy v) (fun c s₂ => if c = (op == .Or) then Q v s₂ else wpAny (model W.prog W.w) A (eval (.BoolOp op (e2 :: es2) pos) env) Q E s₂) E s₁) E s := by
        refine wpAny_mono (hx A ρ σ H s _ _ hA hR hP.bind) ?_ fun _ _ e => e
        rintro v' s1 ⟨v, H1, ρ1, st1, r1, v1, hP1⟩
        cases ht : truthV v with
        | none => rw [ht] at hP1; exact hP1.elim
        | some t =>
          rw [ht] at hP1
          dsimp only at hP1
          refine truth_sound v1 ht ?_
          split
          · rename_i hc; rw [if_pos hc] at hP1; exact post_same r1 hP1 v1
          · rename_i hc; rw [if_neg hc] at hP1; exact ih A ρ1 σ H1 s1 Q E hA r1 hP1
      cases op with
      | And =>
        refine BoolOp_and (wpAny_mono key ?_ fun _ _ e => e)
        intro v s1 h1
        refine wpAny_mono h1 ?_ fun _ _ e => e
        intro c s2 h2
        cases c with
        | true => rw [if_neg (by decide)] at h2; exact h2
        | false => rw [if_pos (by decide)] at h2; exact h2
      | Or =>
        refine BoolOp_or (wpAny_mono key ?_ fun _ _ e => e)
        intro v s1 h1
        refine wpAny_mono h1 ?_ fun _ _ e => e
        intro c s2 h2
        cases c with
        | true => rw [if_pos (by decide)] at h2; exact h2
        | false => rw [if_neg (by decide)] at h2; exact h2

/-- truth of a small run -/
noncomputable def evTr (C : Cx) (x : X) (σ : Sto) (h : H) : R Bool := (ev C x σ h).bind fun v h1 => R.ofOpt (truthV v) h1
noncomputable def BR (_ : List Addr) (a b : Bool) : Prop := a = b
abbrev SimT (W : Wd) (n : Nat) (env : Env) (C : Cx) (x : X) (e : Expr) : Prop := Sim W n env BR (isTrue e env (eval e env)) (evTr C x)

theorem simT_plain {x : X} {e : Expr} (hx : Sim W n env VR (eval e env) (ev C x)) (he : isTrue e env (eval e env) = (do let v ← eval e env; standAt e.pos; holding [v] (truthy v))) : SimT W n env C x e := by
  intro A ρ σ H s Q E hA hR hP
  unfold evTr at hP
  refine isTrue_plain (wpAny_mono (hx A ρ σ H s _ _ hA hR hP.bind) ?_ fun _ _ e => e) he
  rintro v' s1 ⟨v, H1, ρ1, st1, r1, v1, hP1⟩
  cases ht : truthV v with
  | none => rw [ht] at hP1; exact hP1.elim
  | some t =>
    rw [ht] at hP1
    exact truth_sound v1 ht (post_same r1 hP1 rfl)

theorem sim_ite {t a b : X} {et ea eb : Expr} {pos : Pos} (ht : SimT W n env C t et) (ha : Sim W n env VR (eval ea env) (ev C a)) (hb : Sim W n env VR (eval eb env) (ev C b)) :
    Sim W n env VR (eval (.IfExp et ea eb pos) env) (ev C (.ite t a b)) := by
  intro A ρ σ H s Q E hA hR hP
  rw [ev] at hP
  have hP' : Post W env ρ σ s VR ((evTr C t σ H).bind fun c h1 => if c then ev C a σ h1 else ev C b σ h1) Q E := by
    revert hP
    unfold evTr
    cases ev C t σ H with
    | stuck => exact id
    | exc c h => exact id
    | ok v h =>
      simp only [R.bind]
      cases truthV v with
      | none => exact id
      | some c => cases c <;> exact id
  refine IfExp_ (wpAny_mono (ht A ρ σ H s _ _ hA hR hP'.bind) ?_ fun _ _ e => e)
  rintro c' s1 ⟨c, H1, ρ1, st1, r1, rfl, hP1⟩
  cases c with
  | true => exact ha A ρ1 σ H1 s1 Q E hA r1 hP1
  | false => exact hb A ρ1 σ H1 s1 Q E hA r1 hP1

theorem lastMarks_of {xs : List X} {es : List Expr} (h : SimAll W n env C xs es) : ∀ ops, lastMarks ops es = false := by
  induction h with
  | nil => intro ops; cases ops with
    | nil => rfl
    | cons o ops => cases ops <;> rfl
  | @cons x e xs es _ _ hs hall ih =>
    intro ops
    cases ops with
    | nil => rfl
    | cons o ops =>
      cases hall with
      | nil =>
        cases ops with
        | nil => cases e <;> first | rfl | (simp [notSet] at hs)
        | cons o2 ops => show lastMarks (o2 :: ops) [] = false; exact ih _
      | cons =>
        cases ops with
        | nil => exact ih []
        | cons o2 ops => exact ih (o2 :: ops)

theorem evalEach_map (es : List Expr) : evalEach es env = es.map fun e => eval e env := by
  induction es with
  | nil => rfl
  | cons e es ih => rw [evalEach, ih]; rfl

theorem sim_chain {pos : Pos} {xs : List X} {es : List Expr} (h : SimAll W n env C xs es) : ∀ (ops : List CmpOp) A ρ σ H s Q E a a', ops.length = xs.length → AOk A n → Rel W env ρ σ H s → VR ρ a a' → Post W env ρ σ s VR (evC C a ops xs σ H) Q E →
    wpAny (model W.prog W.w) A (compareChain pos a' ops (es.map fun e => eval e env)) Q E s := by
  induction h with
  | nil =>
    intro ops A ρ σ H s Q E a a' hl hA hR ha hP
    cases ops with
    | nil => rw [evC] at hP; exact hP.elim; all_goals simp
    | cons o ops => simp at hl
  | @cons x e xs es hx _ _ hall ih =>
    intro ops A ρ σ H s Q E a a' hl hA hR ha hP
    cases ops with
    | nil => simp at hl
    | cons o ops =>
      cases hall with
      | nil =>
        cases ops with
        | cons => simp at hl
        | nil =>
          rw [evC] at hP
          refine chain_last (wpAny_mono (hx A ρ σ H s _ _ hA hR hP.bind) ?_ fun _ _ e => e)
          rintro b' s1 ⟨b, H1, ρ1, st1, r1, v1, hP1⟩
          cases ht : cmpV o a b H1 with
          | none => rw [ht] at hP1; exact hP1.elim
          | some t => rw [ht] at hP1; exact cmp_sound hA r1 (st1.vr ha) v1 ht (post_same r1 hP1 (VR.bool t))
      | @cons x2 e2 xs2 es2 _ _ _ _ =>
        cases ops with
        | nil => simp at hl
        | cons o2 ops =>
          rw [evC] at hP
          · refine chain_link (wpAny_mono (hx A ρ σ H s _ _ hA hR hP.bind) ?_ fun _ _ e => e)
            rintro b' s1 ⟨b, H1, ρ1, st1, r1, v1, hP1⟩
            cases ht : cmpV o a b H1 with
            | none => rw [ht] at hP1; exact hP1.elim
            | some t =>
              rw [ht] at hP1
              refine cmp_sound hA r1 (st1.vr ha) v1 ht (wpAny_truthy_bool ?_)
              cases t with
              | true => exact ih (o2 :: ops) A ρ1 σ H1 s1 Q E b b' (by simpa using hl) hA r1 v1 hP1
              | false => exact post_same r1 hP1 (VR.bool false)
          · simp

theorem sim_cmp {pos : Pos} {a : X} {ea : Expr} {ops : List CmpOp} {xs : List X} {es : List Expr} (ha : Sim W n env VR (eval ea env) (ev C a)) (h : SimAll W n env C xs es) (hl : ops.length = xs.length) :
    Sim W n env VR (eval (.Compare ea ops es pos) env) (ev C (.cmp a ops xs)) := by
  intro A ρ σ H s Q E hA hR hP
  rw [ev] at hP
  show wpAny _ A (do compareChain pos (← eval ea env) ops (markedEach ops es (evalEach es env))) Q E s
  rw [markedEach_of_false _ _ _ (lastMarks_of h ops), evalEach_map]
  refine wpAny_bind (wpAny_mono (ha A ρ σ H s _ _ hA hR hP.bind) ?_ fun _ _ e => e)
  rintro a' s1 ⟨v, H1, ρ1, st1, r1, v1, hP1⟩
  exact sim_chain h ops A ρ1 σ H1 s1 Q E v a' hl hA r1 v1 hP1

/-- the same, for its truth -/
theorem simT_chain {pos : Pos} {xs : List X} {es : List Expr} (h : SimAll W n env C xs es) : ∀ (ops : List CmpOp) A ρ σ H s (Q : Bool → Shared → Prop) E a a', ops.length = xs.length → AOk A n → Rel W env ρ σ H s → VR ρ a a' →
    Post W env ρ σ s BR ((evC C a ops xs σ H).bind fun v h1 => R.ofOpt (truthV v) h1) Q E →
    wpAny (model W.prog W.w) A (testChain pos a' ops (es.map fun e => eval e env)) Q E s := by
  induction h with
  | nil =>
    intro ops A ρ σ H s Q E a a' hl hA hR ha hP
    cases ops with
    | nil => rw [evC] at hP; exact hP.elim; all_goals simp
    | cons o ops => simp at hl
  | @cons x e xs es hx _ _ hall ih =>
    intro ops A ρ σ H s Q E a a' hl hA hR ha hP
    cases ops with
    | nil => simp at hl
    | cons o ops =>
      have bb : ∀ {α β γ : Type} (r : R α) (f : α → Mine.H → R β) (g : β → Mine.H → R γ), (r.bind f).bind g = r.bind fun x h => (f x h).bind g := by
        intro α β γ r f g; cases r <;> rfl
      cases hall with
      | nil =>
        cases ops with
        | cons => simp at hl
        | nil =>
          rw [evC, bb] at hP
          refine test_last (wpAny_mono (hx A ρ σ H s _ _ hA hR hP.bind) ?_ fun _ _ e => e)
          rintro b' s1 ⟨b, H1, ρ1, st1, r1, v1, hP1⟩
          cases ht : cmpV o a b H1 with
          | none => rw [ht] at hP1; exact hP1.elim
          | some t => rw [ht] at hP1; exact cmp_sound hA r1 (st1.vr ha) v1 ht (wpAny_truthy_bool (post_same r1 hP1 rfl))
      | @cons x2 e2 xs2 es2 _ _ _ _ =>
        cases ops with
        | nil => simp at hl
        | cons o2 ops =>
          rw [evC, bb] at hP
          · refine test_link (wpAny_mono (hx A ρ σ H s _ _ hA hR hP.bind) ?_ fun _ _ e => e)
            rintro b' s1 ⟨b, H1, ρ1, st1, r1, v1, hP1⟩
            cases ht : cmpV o a b H1 with
            | none => rw [ht] at hP1; exact hP1.elim
            | some t =>
              rw [ht] at hP1
              refine cmp_sound hA r1 (st1.vr ha) v1 ht (wpAny_truthy_bool ?_)
              cases t with
              | true => exact ih (o2 :: ops) A ρ1 σ H1 s1 Q E b b' (by simpa using hl) hA r1 v1 hP1
              | false => exact post_same r1 hP1 rfl
          · simp

theorem simT_cmp {pos : Pos} {a : X} {ea : Expr} {ops : List CmpOp} {xs : List X} {es : List Expr} (ha : Sim W n env VR (eval ea env) (ev C a)) (h : SimAll W n env C xs es) (hl : ops.length = xs.length) :
    SimT W n env C (.cmp a ops xs) (.Compare ea ops es pos) := by
  intro A ρ σ H s Q E hA hR hP
  have bb : ∀ {α β γ : Type} (r : R α) (f : α → Mine.H → R β) (g : β → Mine.H → R γ), (r.bind f).bind g = r.bind fun x h => (f x h).bind g := by
    intro α β γ r f g; cases r <;> rfl
  rw [evTr, ev, bb] at hP
  show wpAny _ A (do testChain pos (← eval ea env) ops (markedEach ops es (evalEach es env))) Q E s
  rw [markedEach_of_false _ _ _ (lastMarks_of h ops), evalEach_map]
  refine wpAny_bind (wpAny_mono (ha A ρ σ H s _ _ hA hR hP.bind) ?_ fun _ _ e => e)
  rintro a' s1 ⟨v, H1, ρ1, st1, r1, v1, hP1⟩
  exact simT_chain h ops A ρ1 σ H1 s1 Q E v a' hl hA r1 v1 hP1

theorem simT_not {a : X} {e : Expr} {pos : Pos} (ha : SimT W n env C a e) : SimT W n env C (.not a) (.UnaryOp .Not e pos) := by
  intro A ρ σ H s Q E hA hR hP
  refine isTrue_not (ha A ρ σ H s _ _ hA hR ?_)
  revert hP
  unfold evTr
  rw [ev]
  cases ev C a σ H with
  | stuck => exact id
  | exc c h => exact id
  | ok v h =>
    simp only [R.bind]
    cases truthV v with
    | none => exact id
    | some t => intro hP v' ρ' s' st r e; exact hP (!v') ρ' s' st r (by rw [← e]; rfl)

inductive SimTAll (W : Wd) (n : Nat) (env : Env) (C : Cx) : List X → List Expr → Prop where
  | nil : SimTAll W n env C [] []
  | cons {x : X} {e : Expr} {xs : List X} {es : List Expr} : SimT W n env C x e → SimTAll W n env C xs es → SimTAll W n env C (x :: xs) (e :: es)

theorem simT_bop {op : BoolOp} {pos : Pos} {xs : List X} {es : List Expr} (h : SimTAll W n env C xs es) : ∀ A ρ σ H s (Q : Bool → Shared → Prop) E whole, AOk A n → Rel W env ρ σ H s → xs ≠ [] →
    Post W env ρ σ s BR ((evB C op xs σ H).bind fun v h1 => R.ofOpt (truthV v) h1) Q E → wpAny (model W.prog W.w) A (isTrue (.BoolOp op es pos) env whole) Q E s := by
  induction h with
  | nil => intro A ρ σ H s Q E whole hA hR hne; exact absurd rfl hne
  | @cons x e xs es hx hall ih =>
    intro A ρ σ H s Q E whole hA hR _ hP
    have key : wpAny (model W.prog W.w) A (isTrue e env (eval e env)) (fun c s' => if c = (op == .Or) then Q c s' else wpAny (model W.prog W.w) A (isTrue (.BoolOp op es pos) env whole) Q E s') E s := by
      refine hx A ρ σ H s _ _ hA hR ?_
      cases hall with
      | nil =>
        rw [evB] at hP
        revert hP
        unfold evTr
        generalize (ev C x σ H).bind (fun v h1 => R.ofOpt (truthV v) h1) = r
        cases r with
        | stuck => exact id
        | exc c h => exact id
        | ok t h =>
          intro hP v' ρ' s' st r e
          have hq := hP v' ρ' s' st r e
          split
          · exact hq
          · rename_i hc
            cases op with
            | And =>
              have : v' = true := by revert hc; cases v' <;> decide
              subst this
              exact isTrue_and_nil hq
            | Or =>
              have : v' = false := by revert hc; cases v' <;> decide
              subst this
              exact isTrue_or_nil hq
      | @cons x2 e2 xs2 es2 _ _ =>
        rw [evB] at hP
        revert hP
        unfold evTr
        cases ev C x σ H with
        | stuck => exact id
        | exc c h => exact id
        | ok v h =>
          simp only [R.bind]
          cases ht : truthV v with
          | none => exact id
          | some t =>
            intro hP v' ρ' s' st r e
            have e' : t = v' := e
            subst e'
            split
            · rename_i hc
              simp only [if_pos hc] at hP
              simp only [ht] at hP
              exact hP t ρ' s' st r rfl
            · rename_i hc
              simp only [if_neg hc] at hP
              refine ih A ρ' σ h s' Q E whole hA r (by simp) ?_
              revert hP
              show Post W env ρ σ s BR ((evB C op (x2 :: xs2) σ h).bind fun v h1 => R.ofOpt (truthV v) h1) Q E → _
              generalize (evB C op (x2 :: xs2) σ h).bind (fun v h1 => R.ofOpt (truthV v) h1) = q
              cases q with
              | stuck => exact id
              | exc c h => exact fun hP e ρ2 s2 st2 => hP e ρ2 s2 (st.trans st2)
              | ok c h => exact fun hP e ρ2 s2 st2 => hP e ρ2 s2 (st.trans st2)
    cases op with
    | And =>
      refine isTrue_and (wpAny_mono key ?_ fun _ _ e => e)
      intro c s2 h2
      cases c with
      | true => rw [if_neg (by decide)] at h2; exact h2
      | false => rw [if_pos (by decide)] at h2; exact h2
    | Or =>
      refine isTrue_or (wpAny_mono key ?_ fun _ _ e => e)
      intro c s2 h2
      cases c with
      | true => rw [if_pos (by decide)] at h2; exact h2
      | false => rw [if_neg (by decide)] at h2; exact h2

theorem simT_ite {t a b : X} {et ea eb : Expr} {pos : Pos} (ht : SimT W n env C t et) (ha : SimT W n env C a ea) (hb : SimT W n env C b eb) : SimT W n env C (.ite t a b) (.IfExp et ea eb pos) := by
  intro A ρ σ H s Q E hA hR hP
  have hP' : Post W env ρ σ s BR ((evTr C t σ H).bind fun c h1 => if c then evTr C a σ h1 else evTr C b σ h1) Q E := by
    revert hP
    unfold evTr
    rw [ev]
    cases ev C t σ H with
    | stuck => exact id
    | exc c h => exact id
    | ok v h =>
      simp only [R.bind]
      cases truthV v with
      | none => exact id
      | some c => cases c <;> exact id
  refine isTrue_IfExp (wpAny_mono (ht A ρ σ H s _ _ hA hR hP'.bind) ?_ fun _ _ e => e)
  rintro c' s1 ⟨c, H1, ρ1, st1, r1, rfl, hP1⟩
  cases c with
  | true => exact ha A ρ1 σ H1 s1 Q E hA r1 hP1
  | false => exact hb A ρ1 σ H1 s1 Q E hA r1 hP1
end
end Mine

set_option autoImplicit false
set_option linter.unusedVariables false
namespace Mine
open PySem PyProof.Rows

section
variable {W : Wd} {n : Nat} {env : Env} {C : Cx}

theorem sim_list {xs : List X} {es : List Expr} (h : SimAll W n env C xs es) {pos : Pos} : Sim W n env VR (eval (.List es pos) env) (ev C (.list xs)) := by
  intro A ρ σ H s Q E hA hR hP
  rw [ev] at hP
  refine List_ ?_
  rw [starEach_plain h, backTo_plain]
  refine wpAny_mono (sim_spliced h A ρ σ H s _ _ hA hR hP.bind) ?_ fun _ _ e => e
  rintro vs' s1 ⟨vs, H1, ρ1, st1, r1, v1, hP1⟩
  split at hP1
  · rename_i hb; exact newlist_sound r1 v1 hb hP1
  · exact hP1.elim
theorem sim_tup {xs : List X} {es : List Expr} (h : SimAll W n env C xs es) {k : Nat} {pos : Pos} : Sim W n env VR (eval (.Tuple es k pos) env) (ev C (.tup xs)) := by
  intro A ρ σ H s Q E hA hR hP
  rw [ev] at hP
  refine Tuple_ ?_
  rw [starEach_plain h, backTo_plain]
  refine wpAny_mono (sim_spliced h A ρ σ H s _ _ hA hR hP.bind) ?_ fun _ _ e => e
  rintro vs' s1 ⟨vs, H1, ρ1, st1, r1, v1, hP1⟩
  split at hP1
  · rename_i hb; exact newtuple_sound r1 v1 hb hP1
  · exact hP1.elim

theorem idx_spec {k : Int} {m j : Nat} (h : idx k m = some j) : 0 ≤ k ∧ k < m ∧ m ≤ big ∧ j = k.toNat := by
  unfold idx at h
  split at h
  · rename_i hc; cases h; exact ⟨hc.1, hc.2.1, hc.2.2, rfl⟩
  · cases h

/-- what a sequence of the small heap is -/
theorem seqAt_real {ρ : List Addr} {H : H} {s : Shared} {a : V} {a' : Value} {vs : List V} (hR : RelH W ρ H s) (ha : VR ρ a a') (e : seqAt H a = some vs) :
    ∃ ad items, a' = .ref ad ∧ VRs ρ vs items.toList ∧ (s.heap.IsList ad items ∨ IsTup s.heap ad items) := by
  unfold seqAt at e
  split at e
  · rename_i i
    cases ha with
    | ref _ ad hi =>
      split at e
      · rename_i ws e1
        cases e
        obtain ⟨b, hb, items, hl, r⟩ := hR.heap.obj i _ e1
        rw [hi] at hb; cases hb
        exact ⟨ad, items, rfl, r, .inl hl.isList⟩
      · rename_i ws e1
        cases e
        obtain ⟨b, hb, items, m, hl, r⟩ := hR.heap.obj i _ e1
        rw [hi] at hb; cases hb
        exact ⟨ad, items, rfl, r, .inr ⟨_, hl, rfl, m, rfl⟩⟩
      · rename_i ws e1
        cases e
        obtain ⟨b, hb, items, hl, r⟩ := hR.heap.obj i _ e1
        rw [hi] at hb; cases hb
        exact ⟨ad, items, rfl, r, .inl hl⟩
      · cases e
  · cases e

theorem item_sound {A : Around} {ρ : List Addr} {σ : Sto} {H : H} {s : Shared} {E : Value → Shared → Prop} {Q : Value → Shared → Prop} {a b v : V} {a' b' : Value} (hR : Rel W env ρ σ H s) (ha : VR ρ a a') (hb : VR ρ b b')
    (he : itemV a b H = some v) (h : ∀ v', VR ρ v v' → Q v' s) :
    wpAny (model W.prog W.w) A (getItem a' b') Q E s ∧ ∃ T id, s.TypeIs a' T ∧ typeLookup (.type T) "__getitem__" = pure (some (.builtin id)) := by
  unfold itemV at he
  split at he
  · rename_i k
    split at he
    · rename_i vs hvs
      split at he
      · rename_i j hj
        cases hb with
        | int _ t =>
          obtain ⟨ad, items, rfl, r, hl⟩ := seqAt_real hR.toRelH ha hvs
          obtain ⟨h0, h1, h2, rfl⟩ := idx_spec hj
          obtain ⟨x, hx, hv⟩ := r.at he
          have hx' : items[k.toNat]? = some x := by rw [← Array.getElem?_toList]; exact hx
          have hlen := r.length
          simp only [Array.length_toList] at hlen
          have hbig : k < 2 ^ 63 := by simp only [big] at h2; omega
          rcases hl with hl | hl
          · exact ⟨wpAny_getItem_list hl h0 hbig hx' (h x hv), "list", _, hl.typeIs, slot_list_getitem.lookup⟩
          · refine ⟨getItem_tuple hl (by omega) hbig (j := k.toNat) ?_ hx' (h x hv), "tuple", _, hl.typeIs, slot_tuple_getitem.lookup⟩
            exact seqIndex_of h0 (by omega)
      · cases he
    · cases he
  · cases he

theorem sim_sub {o i : X} {eo ei : Expr} {pos : Pos} (ho : Sim W n env VR (eval eo env) (ev C o)) (hi : Sim W n env VR (eval ei env) (ev C i)) (hs : ∀ l u st p, ei ≠ .Slice l u st p) :
    Sim W n env VR (eval (.Subscript eo ei pos) env) (ev C (.sub o i)) := by
  intro A ρ σ H s Q E hA hR hP
  rw [ev] at hP
  rw [eval_Subscript]
  refine wpAny_bind (wpAny_mono (ho A ρ σ H s _ _ hA hR hP.bind) ?_ fun _ _ e => e)
  rintro a' s1 ⟨a, H1, ρ1, st1, r1, v1, hP1⟩
  refine wpAny_bind (wpAny_holding (wpAny_mono (hi A ρ1 σ H1 s1 _ _ hA r1 hP1.bind) ?_ fun _ _ e => e))
  rintro b' s2 ⟨b, H2, ρ2, st2, r2, v2, hP2⟩
  cases he : itemV a b H2 with
  | none => rw [he] at hP2; exact hP2.elim
  | some v =>
    rw [he] at hP2
    obtain ⟨hg, T, id, hT, hl⟩ := item_sound (A := A) (E := E) (Q := fun r s3 => wpAny (model W.prog W.w) A (letTemporaryGo eo a' r >>= fun _ => pure r) Q E s3) r2 (st2.vr v1) v2 he
      fun v' hv' => wpAny_bind (wpAny_letTemporaryGo (wpAny_pure (post_same r2 hP2 hv')))
    refine wpAny_bind (wpAny_standAt ?_)
    refine wpAny_bind ?_
    rw [getitemInPython_of_ne hT.not_modules]
    refine wpAny_bind (wpAny_specialOf hT hl ?_)
    have hsub : subscripted ei false a' b' = operate [a', b'] (getItem a' b') := by
      unfold subscripted
      split
      · exact absurd rfl (hs _ _ _ _)
      · rename_i hf; cases hf
      · rfl
    refine wpAny_pure (wpAny_bind ?_)
    rw [hsub]
    exact wpAny_operating hg

theorem len_sound {A : Around} {ρ : List Addr} {σ : Sto} {H : H} {s : Shared} {E : Value → Shared → Prop} {Q : Value → Shared → Prop} {a : V} {a' : Value} {vs : List V} (hR : Rel W env ρ σ H s) (ha : VR ρ a a')
    (he : seqAt H a = some vs) (hb : vs.length ≤ big) (hP : Post W env ρ σ s VR (.ok (.int vs.length) H) Q E) : wpAny (model W.prog W.w) A (call (.builtin "len") [a']) Q E s := by
  obtain ⟨ad, items, rfl, r, hl⟩ := seqAt_real hR.toRelH ha he
  have hlen := r.length
  simp only [Array.length_toList] at hlen
  have hf : (items.size : Int) < 2 ^ 63 := by simp only [big] at hb; omega
  rcases hl with hl | hl
  · exact PyProof.Rows.len_list hl hf (by rw [← hlen]; exact post_here hR hP (VR.int _ _) _)
  · exact PyProof.Rows.len_tuple hl hf (by rw [← hlen]; exact post_here hR hP (VR.int _ _) _)

theorem listAt_real {ρ : List Addr} {H : H} {s : Shared} {a : V} {a' : Value} {vs : List V} (hR : RelH W ρ H s) (ha : VR ρ a a') (e : listAt H a = some vs) :
    ∃ i ad items, a = .ref i ∧ a' = .ref ad ∧ ρ[i]? = some ad ∧ H[i]? = some (.list vs) ∧ VRs ρ vs items.toList ∧ s.heap.PlainList ad items := by
  unfold listAt at e
  split at e
  · rename_i i
    cases ha with
    | ref _ ad hi =>
      split at e
      · rename_i ws e1
        cases e
        obtain ⟨b, hb, items, hl, r⟩ := hR.heap.obj i _ e1
        rw [hi] at hb; cases hb
        exact ⟨i, ad, items, rfl, rfl, hi, e1, r, hl⟩
      · cases e
  · cases e

theorem allB_spec : ∀ {ρ : List Addr} {vs : List V} {xs : List Value} {t : Bool}, VRs ρ vs xs → allB vs = some t → ∃ bs : List Bool, xs = bs.map Value.bool ∧ t = bs.all id
  | ρ, [], _, t, h, e => by cases h; simp [allB] at e; subst e; exact ⟨[], rfl, rfl⟩
  | ρ, v :: vs, _, t, h, e => by
    cases h with
    | cons h1 h2 =>
      cases h1 with
      | bool b =>
        simp only [allB] at e
        split at e
        · rename_i t' ht
          cases e
          obtain ⟨bs, rfl, rfl⟩ := allB_spec h2 ht
          exact ⟨b :: bs, rfl, by simp⟩
        · cases e
      | _ => simp [allB] at e

theorem range_all (bs : List Bool) : ((List.range bs.length).all fun j => bs.getD j false) = bs.all id := by
  induction bs with
  | nil => rfl
  | cons b bs ih =>
    rw [List.length_cons, List.range_succ_eq_map, List.all_cons, List.all_map, List.all_cons, ← ih]
    rfl

theorem all_sound {A : Around} {ρ : List Addr} {σ : Sto} {H : H} {s : Shared} {E : Value → Shared → Prop} {Q : Value → Shared → Prop} {a : V} {a' : Value} {vs : List V} {t : Bool} (hA : AOk A n) (hR : Rel W env ρ σ H s) (ha : VR ρ a a')
    (he : listAt H a = some vs) (ht : allB vs = some t) (hP : Post W env ρ σ s VR (.ok (.bool t) H) Q E) : wpAny (model W.prog W.w) A (call (.builtin "all") [a']) Q E s := by
  obtain ⟨i, ad, items, rfl, rfl, hi, e1, r, hl⟩ := listAt_real hR.toRelH ha he
  obtain ⟨bs, hx, rfl⟩ := allB_spec r ht
  refine call_all_walk (wpAny_pyIter_list hl.isList ?_)
  have hne : ad ≠ s.heap.objs.size := Nat.ne_of_lt (let ⟨m, e⟩ := hl; Heap.lt_size e)
  refine ⟨s.heap.objs.size, _, _, _, _, _, fun j => bs.getD j false, rfl, Walks.list (by exact hA.1) s.heap.objs.size ad hne items, ?_, ?_, ?_⟩
  · exact ⟨⟨_, Heap.get?_push_size _ rfl, rfl, rfl⟩, hl.isList.push _⟩
  · intro j v s' Q' E' hv hq
    have hv' : items.toList[j]? = some v := by rw [Array.getElem?_toList]; exact hv
    rw [hx, List.getElem?_map] at hv'
    obtain ⟨b, hb, rfl⟩ := Option.map_eq_some_iff.mp hv'
    have : bs.getD j false = b := by rw [List.getD_eq_getElem?_getD, hb]; rfl
    (have hq : Q' (bs.getD j false) s' := hq); rw [this] at hq
    exact wpAny_truthy_bool hq
  · intro h' tk hk
    have hall : ((List.range items.size).all fun j => bs.getD j false) = bs.all id := by
      have hlen : items.size = bs.length := by rw [← Array.length_toList, hx]; simp
      rw [hlen]
      exact range_all bs
    rw [hall]
    have keep : ∀ b o, s.heap.get? b = some o → h'.get? b = some o := fun b o e => hk b o (by simp; exact Nat.ne_of_lt (Heap.lt_size e)) (Heap.get?_push_of_some _ e)
    exact hP _ _ _ (Step.grow keep) (hR.grow keep) (VR.bool _)

theorem listcopy_sound {A : Around} {ρ : List Addr} {σ : Sto} {H : H} {s : Shared} {E : Value → Shared → Prop} {Q : Value → Shared → Prop} {a : V} {a' : Value} {vs : List V} (hR : Rel W env ρ σ H s) (ha : VR ρ a a')
    (he : listAt H a = some vs) (hb : vs.length ≤ big) (hP : Post W env ρ σ s VR (alloc (.list vs) H) Q E) : wpAny (model W.prog W.w) A (call (.type "list") [a']) Q E s := by
  obtain ⟨i, ad, items, rfl, rfl, hi, e1, r, m, hl⟩ := listAt_real hR.toRelH ha he
  have hlen := r.length
  simp only [Array.length_toList] at hlen
  have hbl := big_le
  refine call_list_seq ad (.inl rfl) hl rfl rfl (fun h' c' hk hS => ?_) (by omega)
  have f := hR.fresh (Heap.get?_none_of_le (Nat.le_refl s.heap.objs.size))
  refine hP _ (ρ ++ [s.heap.objs.size]) _ ⟨⟨_, rfl, by simpa using Heap.get?_none_of_le (Nat.le_refl _)⟩, fun b o e _ _ => ⟨o, hk b o e, .refl o⟩, fun b o e => ⟨o, hk b o e⟩⟩ ?_ (.ref _ _ (by rw [← hR.heap.len]; simp))
  exact (hR.grow (tk := s.toks) hk).adopt ⟨items, ⟨c', hS⟩, r.mono⟩ f.1 f.2.1 f.2.2.1 f.2.2.2

theorem bi_sound {A : Around} {ρ : List Addr} {σ : Sto} {H : H} {s : Shared} {E : Value → Shared → Prop} {Q : Value → Shared → Prop} {b : Bi} {vs : List V} {xs : List Value} (hA : AOk A n) (hR : Rel W env ρ σ H s) (hv : VRs ρ vs xs)
    (hP : Post W env ρ σ s VR (biV b vs H) Q E) : wpAny (model W.prog W.w) A (call (biVal b) xs []) Q E s := by
  unfold biV at hP
  split at hP
  · rename_i a
    cases hv with
    | cons h1 h2 =>
      cases h2
      split at hP
      · rename_i ws hws
        split at hP
        · rename_i hb; exact len_sound hR h1 hws hb hP
        · exact hP.elim
      · exact hP.elim
  · rename_i a
    cases hv with
    | cons h1 h2 =>
      cases h2
      split at hP
      · rename_i ws hws
        split at hP
        · rename_i t ht; exact all_sound hA hR h1 hws ht hP
        · exact hP.elim
      · exact hP.elim
  · rename_i a
    cases hv with
    | cons h1 h2 =>
      cases h2
      split at hP
      · rename_i ws hws
        split at hP
        · rename_i hb; exact listcopy_sound hR h1 hws hb hP
        · exact hP.elim
      · exact hP.elim
  · rename_i a
    cases hv with
    | cons h1 h2 =>
      cases h2
      split at hP
      · cases h1; exact call_int_bool (post_here hR hP (VR.int _ _) _)
      · cases h1; exact call_int_int (post_same hR hP (VR.int _ _))
      · exact hP.elim
  · exact hP.elim
end
end Mine

set_option autoImplicit false
set_option linter.unusedVariables false
namespace Mine
open PySem PyProof.Rows

section
variable {W : Wd} {n : Nat} {env : Env} {C : Cx}

noncomputable def tyVal : Ty → Option Value
  | .int => some (.type "int") | .bool => some (.type "bool") | .list => some (.type "list") | .tuple => some (.type "tuple") | .str => some (.type "str") | _ => none

theorem isi_sound {A : Around} {ρ : List Addr} {σ : Sto} {H : H} {s : Shared} {E : Value → Shared → Prop} {Q : Value → Shared → Prop} {v : V} {v' : Value} {t : Ty} {k : Kd} {b : Bool} {c : Value} (hR : Rel W env ρ σ H s) (hv : VR ρ v v')
    (hk : kindV H v = some k) (hb : isiK t k = some b) (hc : tyVal t = some c) (hP : Post W env ρ σ s VR (.ok (.bool b) H) Q E) : wpAny (model W.prog W.w) A (call (.builtin "isinstance") [v', c]) Q E s := by
  have q1 : ∀ tk, Q (.bool b) { s with toks := tk } := fun tk => post_here hR hP (VR.bool b) tk
  have q0 : Q (.bool b) s := post_same hR hP (VR.bool b)
  have cls : ∀ i a, ρ[i]? = some a → v = .ref i → v' = .ref a → (k = .list ∧ ∃ o, s.heap.get? a = some o ∧ o.cls = .type "list") ∨ (k = .tuple ∧ ∃ o, s.heap.get? a = some o ∧ o.cls = .type "tuple") ∨
      (k = .dict ∧ ∃ o, s.heap.get? a = some o ∧ o.cls = .type "dict") ∨ ∃ c, k = .exc c := by
    intro i a hi e1 e2
    subst e1
    simp only [kindV] at hk
    split at hk
    · rename_i ws e
      cases hk
      obtain ⟨items, ⟨m, ho⟩, r⟩ := hR.toRelH.list hi e
      exact .inl ⟨rfl, _, ho, rfl⟩
    · rename_i ws e
      cases hk
      obtain ⟨items, m, ho, r⟩ := hR.toRelH.tup hi e
      exact .inr (.inl ⟨rfl, _, ho, rfl⟩)
    · rename_i ws e
      cases hk
      obtain ⟨b, hb, he, o, m, ho, hc, hd⟩ := hR.heap.obj i _ e
      rw [hi] at hb; cases hb
      exact .inr (.inr (.inl ⟨rfl, o, ho, hc⟩))
    · rename_i c e
      cases hk
      exact .inr (.inr (.inr ⟨c, rfl⟩))
    · cases hk
  cases hv with
  | none =>
    simp only [kindV, Option.some.injEq] at hk; subst hk
    cases t <;> first | (cases hc; done) | (cases hb; cases hc)
    · exact IsiPair.NoneType_int (q1 _)
    · exact IsiPair.NoneType_bool (q1 _)
    · exact IsiPair.NoneType_list (q1 _)
    · exact IsiPair.NoneType_tuple (q1 _)
    · exact IsiPair.NoneType_str (q1 _)
  | bool x =>
    simp only [kindV, Option.some.injEq] at hk; subst hk
    cases t <;> first | (cases hc; done) | (cases hb; cases hc)
    · exact IsiPair.bool_int q0
    · exact IsiPair.bool_bool q0
    · exact IsiPair.bool_list (q1 _)
    · exact IsiPair.bool_tuple (q1 _)
    · exact IsiPair.bool_str (q1 _)
  | int x u =>
    simp only [kindV, Option.some.injEq] at hk; subst hk
    cases t <;> first | (cases hc; done) | (cases hb; cases hc)
    · exact IsiPair.int_int q0
    · exact IsiPair.int_bool (q1 _)
    · exact IsiPair.int_list (q1 _)
    · exact IsiPair.int_tuple (q1 _)
    · exact IsiPair.int_str (q1 _)
  | str x u =>
    simp only [kindV, Option.some.injEq] at hk; subst hk
    cases t <;> first | (cases hc; done) | (cases hb; cases hc)
    · exact IsiPair.str_int (q1 _)
    · exact IsiPair.str_bool (q1 _)
    · exact IsiPair.str_list (q1 _)
    · exact IsiPair.str_tuple (q1 _)
    · exact IsiPair.str_str q0
  | ref i a hi =>
    rcases cls i a hi rfl rfl with ⟨rfl, o, ho, hcl⟩ | ⟨rfl, o, ho, hcl⟩ | ⟨rfl, o, ho, hcl⟩ | ⟨c, rfl⟩
    · cases t <;> first | (cases hc; done) | (cases hb; cases hc)
      · exact IsiPair.list_int ho hcl (q1 _)
      · exact IsiPair.list_bool ho hcl (q1 _)
      · exact IsiPair.list_list ho hcl q0
      · exact IsiPair.list_tuple ho hcl (q1 _)
      · exact IsiPair.list_str ho hcl (q1 _)
    · cases t <;> first | (cases hc; done) | (cases hb; cases hc)
      · exact IsiPair.tuple_int ho hcl (q1 _)
      · exact IsiPair.tuple_bool ho hcl (q1 _)
      · exact IsiPair.tuple_list ho hcl (q1 _)
      · exact IsiPair.tuple_tuple ho hcl q0
      · exact IsiPair.tuple_str ho hcl (q1 _)
    · cases t <;> first | (cases hc; done) | (cases hb; cases hc)
      · exact IsiPair.dict_int ho hcl (q1 _)
      · exact IsiPair.dict_bool ho hcl (q1 _)
      · exact IsiPair.dict_list ho hcl (q1 _)
      · exact IsiPair.dict_tuple ho hcl (q1 _)
      · exact IsiPair.dict_str ho hcl (q1 _)
    · cases t <;> cases hb

theorem Base.ty (B : Base W n C) {t : Ty} {c : Str} {x : Value} (hc : tyName W.T t = some c) (hx : tyVal t = some x) : W.mg c = none ∧ W.mb c = some x := by
  cases t <;> simp only [tyName, tyVal, Option.some.injEq, reduceCtorEq] at hc hx <;> subst hc <;> subst hx
  · exact B.tyi
  · exact B.tyb
  · exact B.tyl
  · exact B.tyt
  · exact B.tys

theorem starEach_cons {e : Expr} {es : List Expr} (h : notStar e = true) : starEach (e :: es) env = (false, eval e env) :: starEach es env := by
  cases e <;> first | rfl | (exact absurd h (by simp [notStar]))
theorem starEach_two {e f : Expr} (h : notStar e = true) (h' : notStar f = true) : starEach [e, f] env = trees env [e, f] := by
  rw [starEach_cons h, starEach_cons h']; rfl

theorem sim_isi {a : X} {ea : Expr} {t : Ty} {c : Str} {p1 p2 pos : Pos} {sc : Scope} (B : Base W n C) (hsc : ScOk env sc) (ha : Sim W n env VR (eval ea env) (ev C a)) (hns : notStar ea = true)
    (h1 : isG sc "isinstance" = true) (hc : tyName W.T t = some c) (h2 : isG sc c = true) (h3 : okName c = true) (ht : ∃ x, tyVal t = some x) :
    Sim W n env VR (eval (.Call (.Name "isinstance" p1) [ea, .Name c p2] [] pos) env) (ev C (.isi a t)) := by
  obtain ⟨x, hx⟩ := ht
  intro A ρ σ H s Q E hA hR hP
  rw [ev] at hP
  show wpAny _ A (do callWith pos (← eval (.Name "isinstance" p1) env) [] (backTo pos (starEach [ea, .Name c p2] env)) []) Q E s
  refine wpAny_bind (load_glob B hsc hR h1 (by decide) (.inr B.isi) ?_)
  rw [starEach_two hns rfl, backTo_plain]
  refine Calls.callWith_builtin (trees_any _ _) (Calls.evalArgs_plain (Calls.spliced_cons (wpAny_mono (ha A ρ σ H s _ _ hA hR hP.bind) ?_ fun _ _ e => e)))
  rintro v' s1 ⟨v, H1, ρ1, st1, r1, v1, hP1⟩
  refine Calls.spliced_cons (load_glob B hsc r1 h2 h3 (.inr (B.ty hc hx)) (Calls.spliced_nil ?_))
  cases hk : kindV H1 v with
  | none => rw [hk] at hP1; exact hP1.elim
  | some k =>
    rw [hk] at hP1
    cases hb : isiK t k with
    | none => simp only [hb] at hP1; exact hP1.elim
    | some b =>
      simp only [hb] at hP1
      exact isi_sound r1 v1 hk hb hx hP1

theorem sim_bi {b : Bi} {xs : List X} {es : List Expr} {p1 pos : Pos} {sc : Scope} (B : Base W n C) (hsc : ScOk env sc) (h : SimAll W n env C xs es) (h1 : isG sc (biName b) = true) :
    Sim W n env VR (eval (.Call (.Name (biName b) p1) es [] pos) env) (ev C (.bi b xs)) := by
  intro A ρ σ H s Q E hA hR hP
  rw [ev] at hP
  show wpAny _ A (do callWith pos (← eval (.Name (biName b) p1) env) [] (backTo pos (starEach es env)) []) Q E s
  refine wpAny_bind (load_glob B hsc hR h1 (by cases b <;> decide) (.inr (B.bi b)) ?_)
  rw [starEach_plain h, backTo_plain]
  have main : wpAny (model W.prog W.w) A (evalArgs (biVal b) true (trees env es) []) (fun a s₁ => wpAny (model W.prog W.w) A (call (biVal b) ([] ++ a.pos) a.kw) Q E s₁) E s := by
    refine wpAny_mono (sim_args h A ρ σ H s _ _ hA hR hP.bind) ?_ fun _ _ e => e
    rintro a s1 ⟨vs, H1, ρ1, st1, r1, ⟨v1, hkw⟩, hP1⟩
    rw [hkw, List.nil_append]
    exact bi_sound hA r1 v1 hP1
  have viaB : ∀ id, biVal b = .builtin id → wpAny (model W.prog W.w) A (callWith pos (biVal b) [] (trees env es) []) Q E s := fun id e => by
    rw [e] at main ⊢
    exact Calls.callWith_builtin (trees_any _ _) main
  have viaT : ∀ id, biVal b = .type id → wpAny (model W.prog W.w) A (callWith pos (biVal b) [] (trees env es) []) Q E s := fun id e => by
    rw [e] at main ⊢
    unfold callWith
    refine wpAny_bind (wpAny_holding (wpAny_mono main (fun a s₁ h₁ => wpAny_bind (wpAny_standAt ?_)) fun _ _ x => x))
    simp only [trees_any, List.any_nil, Bool.or_false]
    refine wpAny_bind (wpAny_pure ?_)
    exact wpAny_bind (wpAny_mono h₁ (fun r s₂ hr => wpAny_bind (wpAny_holding (wpAny_point (wpAny_pure hr)))) fun _ _ x => x)
  cases hb : biVal b with
  | builtin id => rw [← hb]; exact viaB id hb
  | type id => rw [← hb]; exact viaT id hb
  | _ => cases b <;> cases hb

theorem sim_call {f : Nat} {nm : Str} {xs : List X} {es : List Expr} {p1 pos : Pos} {sc : Scope} (B : Base W n C) (hsc : ScOk env sc) (h : SimAll W n env C xs es) (hf : W.T.fns[f]? = some (some nm)) (h1 : isG sc nm = true) (h2 : okName nm = true) :
    Sim W n env VR (eval (.Call (.Name nm p1) es [] pos) env) (ev C (.call f xs)) := by
  intro A ρ σ H s Q E hA hR hP
  rw [ev] at hP
  obtain ⟨fa, o, fd, hmg, ho, hd, hsim⟩ := B.fn f nm hf
  show wpAny _ A (do callWith pos (← eval (.Name nm p1) env) [] (backTo pos (starEach es env)) []) Q E s
  refine wpAny_bind (load_glob B hsc hR h1 h2 (.inl hmg) ?_)
  rw [starEach_plain h, backTo_plain]
  refine Calls.callWith_function (o := o) (fd := fd) (wpAny_mono (sim_args h A ρ σ H s _ _ hA hR hP.bind) ?_ fun _ _ e => e)
  rintro a s1 ⟨vs, H1, ρ1, st1, r1, ⟨v1, hkw⟩, hP1⟩
  refine ⟨⟨r1.keep _ _ ho, hd⟩, ?_⟩
  rw [hkw, List.nil_append]
  refine hsim vs H1 A ρ1 s1 Q E a.pos hA r1.toRelH v1 ?_
  have fr : ∀ {ρ' s'}, Step no ρ1 s1 ρ' s' → EnvR W env ρ' σ s'.heap := fun st => r1.env.step st (fun q => q) fun _ _ _ _ q => q
  revert hP1
  generalize C.F f vs H1 = r
  intro hP1
  cases r with
  | stuck => exact hP1
  | exc c H' => exact fun e ρ' s' st rh => hP1 e ρ' s' st ⟨rh, fr st⟩
  | ok v H' => exact fun e ρ' s' st rh => hP1 e ρ' s' st ⟨rh, fr st⟩
end
end Mine

set_option autoImplicit false
set_option linter.unusedVariables false
namespace Mine
open PySem PyProof.Rows

section
variable {W : Wd} {n : Nat} {env : Env} {C : Cx}

noncomputable def meId : Me → String
  | .append => "list.append" | .index => "list.index" | .pop => "list.pop" | .clear => "list.clear"

theorem append_sound {A : Around} {ρ : List Addr} {σ : Sto} {H : H} {s : Shared} {E : Value → Shared → Prop} {Q : Value → Shared → Prop} {i : Nat} {a : Addr} {vs : List V} {v : V} {v' : Value} (hR : Rel W env ρ σ H s) (hi : ρ[i]? = some a)
    (he : H[i]? = some (.list vs)) (hv : VR ρ v v') (hb : vs.length ≤ big) (hP : Post W env ρ σ s VR (.ok .none (H.set i (.list (vs ++ [v])))) Q E) :
    wpAny (model W.prog W.w) A (call (.builtin "list.append") [.ref a, v']) Q E s := by
  obtain ⟨items, hl, r⟩ := hR.toRelH.list hi he
  have hlen := r.length
  simp only [Array.length_toList] at hlen
  have hbl := big_le
  refine wpAny_list_append_plain hl (fun h' hl' hs' => ?_) (by omega)
  refine hP _ ρ _ (Step.change (tk := s.toks) hi hs' (let ⟨m, e⟩ := hl'; ⟨_, e⟩)) (hR.change (tk := s.toks) hi he (by simp) ⟨_, hl', ?_⟩ hs') VR.none
  rw [Array.toList_push]
  exact r.snoc hv

theorem clear_sound {A : Around} {ρ : List Addr} {σ : Sto} {H : H} {s : Shared} {E : Value → Shared → Prop} {Q : Value → Shared → Prop} {i : Nat} {a : Addr} {vs : List V} (hR : Rel W env ρ σ H s) (hi : ρ[i]? = some a)
    (he : H[i]? = some (.list vs)) (hb : vs.length ≤ big) (hP : Post W env ρ σ s VR (.ok .none (H.set i (.list []))) Q E) :
    wpAny (model W.prog W.w) A (call (.builtin "list.clear") [.ref a]) Q E s := by
  obtain ⟨items, ⟨m, ho⟩, r⟩ := hR.toRelH.list hi he
  have hlen := r.length
  simp only [Array.length_toList] at hlen
  have hbl := big_le
  refine call_meets PySem.F.slot_list_clear ⟨_, ho, rfl⟩ PySem.F.entry_list_clear (PySem.F.args_list_clear_1 _) (AutoSeq1.list_clear_list_0 a items m (by omega)) ⟨ho, ?_⟩
  have hs' : Heap.SameBut a s.heap (s.heap.update a (Obj.mapSeq fun _ => #[])) := Heap.SameBut.update ..
  have hg : ∃ m', (s.heap.update a (Obj.mapSeq fun _ => #[])).get? a = some { cls := .type "list", data := .seq #[] m' } :=
    ⟨_, Heap.get?_update_self _ ho rfl⟩
  obtain ⟨m', hg⟩ := hg
  exact hP _ ρ _ (Step.change hi hs' ⟨_, hg⟩) (hR.change hi he (by simp) ⟨_, ⟨m', hg⟩, VRs.nil⟩ hs') VR.none

theorem me_sound {A : Around} {ρ : List Addr} {σ : Sto} {H : H} {s : Shared} {E : Value → Shared → Prop} {Q : Value → Shared → Prop} {m : Me} {o : V} {o' : Value} {vs : List V} {xs : List Value} (hA : AOk A n) (hR : Rel W env ρ σ H s)
    (ho : VR ρ o o') (hv : VRs ρ vs xs) (hP : Post W env ρ σ s VR (meV m o vs H) Q E) : wpAny (model W.prog W.w) A (call (.builtin (meId m)) (o' :: xs) []) Q E s := by
  unfold meV at hP
  split at hP
  · rename_i i
    cases ho with
    | ref _ a hi =>
      split at hP
      · rename_i ws he
        split at hP
        · rename_i v
          cases hv with
          | cons h1 h2 =>
            cases h2
            split at hP
            · rename_i hb; exact append_sound hR hi he h1 hb hP
            · exact hP.elim
        · cases hv
          split at hP
          · rename_i hb; exact clear_sound hR hi he hb hP
          · exact hP.elim
        · rename_i v
          cases hv with
          | cons h1 h2 =>
            cases h2
            split at hP
            · rename_i k hk
              split at hP
              · rename_i hb
                unfold indexV at hk
                split at hk
                · rename_i ds d hx hy
                  split at hk
                  · rename_i hc
                    obtain ⟨c1, c2⟩ := Bool.and_eq_true_iff.mp hc
                    obtain ⟨as, rb⟩ := rd_reads hR.heap hx (.ref i a hi)
                    obtain ⟨bs, ra⟩ := rd_reads hR.heap hy h1
                    have d2 := rd_depth hy
                    obtain ⟨items, ⟨q, hl⟩, r⟩ := hR.toRelH.list hi he
                    cases rb with
                    | list g1 g2 g3 g4 =>
                      rw [hl] at g1; cases g1; cases g3
                      have hmap := SeqAt.readsAll_map ds _ _ c1 g4
                      have hu : A.units + 1 + min (PyData.depthAll ds) d.depth < cLine := by
                        have h1 : min (PyData.depthAll ds) d.depth ≤ d.depth := Nat.min_le_right _ _
                        have := hA.2.2; simp only [cLine]; omega
                      have heq := SeqAt.items_eqAt (A := A) g4 ra c1 c2 hu
                      obtain ⟨hkl, hk1, hk2⟩ := List.findIdx?_eq_some_iff_getElem.mp hk
                      have hlen : ds.length = items.size := by rw [← hmap, List.length_map, Array.length_toList]
                      have hrs := r.length
                      simp only [Array.length_toList] at hrs
                      have hat : ∀ j (hj : j < items.size), SeqAt.readOf s.heap items[j] = ds[j]'(by omega) := fun j hj => by
                        have := congrArg (fun l => l[j]?) hmap
                        simp only [List.getElem?_map, Array.getElem?_toList] at this
                        rw [Array.getElem?_eq_getElem hj, List.getElem?_eq_getElem (by omega)] at this
                        simpa using this
                      refine call_meets PySem.F.slot_list_index ⟨_, hl, rfl⟩ PySem.F.entry_list_index (PySem.F.args_list_index_2 _ _)
                        (SeqAt.list_indexAt a items q none #[] _ (fun y => PyData.eqv (SeqAt.readOf s.heap y) d) k (by omega) (by simp only [big] at hb; omega) (by rw [hat k (by omega)]; exact hk1)
                          fun m hm hmk => by rw [hat m hm]; simpa using hk2 m hmk) ⟨hl, heq, post_here hR hP (VR.int _ _) _⟩
                  · cases hk
                · cases hk
              · exact hP.elim
            · exact hP.elim
        · exact hP.elim
      · exact hP.elim
  · exact hP.elim

theorem base_plain {o : Expr} {nm : Str} (h : notCall o = true) : attributeBase o nm env (eval o env) = eval o env := by
  unfold attributeBase
  cases o <;> first | rfl | (exact absurd h (by simp [notCall]))

theorem sim_meth {m : Me} {o : X} {eo : Expr} {xs : List X} {es : List Expr} {ap pos : Pos} (ho : Sim W n env VR (eval eo env) (ev C o)) (hb : notCall eo = true) (hline : (ap.endLine == pos.line) = true) (hfew : es.length < 9)
    (h : SimAll W n env C xs es) : Sim W n env VR (eval (.Call (.Attribute eo (meName m) ap) es [] pos) env) (ev C (.meth m o xs)) := by
  intro A ρ σ H s Q E hA hR hP
  rw [ev] at hP
  refine wpAny_Call_method_late (trees := trees env es) (base_plain hb) ?_ hline (by rw [starEach_plain h, backTo_plain]) ?_
  · rw [starEach_plain h, backTo_plain]
    have h1 : (trees env es).all (fun x => !x.1) = true := by simp [trees]
    rw [h1, show (backToKw pos (keywordEach [] env)).all (fun x => x.1.isSome) = true from rfl]
    simp only [Bool.true_and, decide_eq_true_eq]
    show es.length + 0 + 0 < 30
    omega
  · refine wpAny_mono (ho A ρ σ H s _ _ hA hR hP.bind) ?_ fun _ _ e => e
    rintro o' s1 ⟨v, H1, ρ1, st1, r1, v1, hP1⟩
    cases hk : kindV H1 v with
    | none => rw [hk] at hP1; exact hP1.elim
    | some k =>
      rw [hk] at hP1
      cases k with
      | list =>
        obtain ⟨i, a, hi, e1, e2, ws, he⟩ : ∃ i a, ρ1[i]? = some a ∧ v = .ref i ∧ o' = .ref a ∧ ∃ ws, H1[i]? = some (O.list ws) := by
          cases v1 with
          | ref i a hi =>
            simp only [kindV] at hk
            split at hk
            · rename_i ws e; exact ⟨i, a, hi, rfl, rfl, ws, e⟩
            all_goals cases hk
          | _ => simp [kindV] at hk
        subst e1 e2
        obtain ⟨items, ⟨q, hl⟩, r⟩ := r1.toRelH.list hi he
        have main : wpAny (model W.prog W.w) A (callWith pos (.builtin (meId m)) [.ref a] (trees env es) []) Q E s1 := by
          refine Calls.callWith_builtin (trees_any _ _) (wpAny_mono (sim_args h A ρ1 σ H1 s1 _ _ hA r1 hP1.bind) ?_ fun _ _ e => e)
          rintro w s2 ⟨vs, H2, ρ2, st2, r2, ⟨v2, hkw⟩, hP2⟩
          rw [hkw]
          exact me_sound hA r2 (st2.vr (VR.ref i a hi)) v2 hP2
        refine ⟨"list", meId m, PySem.F.plainAttrs_list, ?_, ?_, ⟨_, hl, rfl⟩, fun b e => by cases e; exact ⟨_, hl, rfl⟩, main⟩
        · cases m
          · exact PySem.F.slot_list_append
          · exact PySem.F.slot_list_index
          · exact PySem.F.slot_list_pop
          · exact PySem.F.slot_list_clear
        · cases m
          · exact PySem.F.type_list_append
          · exact PySem.F.type_list_index
          · exact PySem.F.type_list_pop
          · exact PySem.F.type_list_clear
      | _ => exact hP1.elim
end
end Mine

set_option autoImplicit false
set_option linter.unusedVariables false
namespace Mine
open PySem PyProof.Rows

/-! iterators -/

noncomputable def ItSt (ρ : List Addr) (src : Src) (h : Heap) (it : Addr) (j : Nat) : Prop := match src.live with
  | some (i, .list vs) => vs = src.items ∧ ∃ a, ρ[i]? = some a ∧ h.IsListIter it a j
  | some (i, .tuple vs) => vs = src.items ∧ ∃ a, ρ[i]? = some a ∧ h.IsTupleIter it a j
  | some _ => False
  | Option.none => ∃ a n, src.items = countV a n ∧ IsRangeIter h it (a + (j : Int)) ((n : Int) - (j : Int)) 1

theorem ItSt.mono {ρ δ : List Addr} {src : Src} {h : Heap} {it : Addr} {j : Nat} (x : ItSt ρ src h it j) : ItSt (ρ ++ δ) src h it j := by
  obtain ⟨items, live⟩ := src
  cases live with
  | none => exact x
  | some p =>
    obtain ⟨i, o⟩ := p
    cases o with
    | list vs => obtain ⟨e, a, ha, r⟩ := x; exact ⟨e, a, by rw [List.getElem?_append_left (List.getElem?_eq_some_iff.mp ha).1]; exact ha, r⟩
    | tuple vs => obtain ⟨e, a, ha, r⟩ := x; exact ⟨e, a, by rw [List.getElem?_append_left (List.getElem?_eq_some_iff.mp ha).1]; exact ha, r⟩
    | _ => exact x.elim
theorem ItSt.keep {ρ : List Addr} {src : Src} {h h' : Heap} {it : Addr} {j : Nat} (x : ItSt ρ src h it j) (k : ∀ o, h.get? it = some o → ∃ o', h'.get? it = some o' ∧ Kp o o') : ItSt ρ src h' it j := by
  obtain ⟨items, live⟩ := src
  cases live with
  | none =>
    obtain ⟨a, n, e, r⟩ := x
    obtain ⟨o', ho', hk⟩ := k _ r
    exact ⟨a, n, e, by show h'.get? it = _; rw [ho', hk.eq (by simp)]⟩
  | some p =>
    obtain ⟨i, o⟩ := p
    cases o with
    | list vs =>
      obtain ⟨e, a, ha, ⟨o, ho, hc, hd⟩⟩ := x
      obtain ⟨o', ho', hk⟩ := k _ ho
      exact ⟨e, a, ha, o', ho', hk.cls.trans hc, hk.data.trans hd⟩
    | tuple vs =>
      obtain ⟨e, a, ha, ⟨o, ho, hc, hd⟩⟩ := x
      obtain ⟨o', ho', hk⟩ := k _ ho
      exact ⟨e, a, ha, o', ho', hk.cls.trans hc, hk.data.trans hd⟩
    | _ => exact x.elim
theorem ItSt.alive {ρ : List Addr} {src : Src} {h : Heap} {it : Addr} {j : Nat} (x : ItSt ρ src h it j) : ∃ o, h.get? it = some o ∧ ∃ vs, o.data = .fields vs := by
  obtain ⟨items, live⟩ := src
  cases live with
  | none => obtain ⟨a, n, e, r⟩ := x; exact ⟨_, r, _, rfl⟩
  | some p =>
    obtain ⟨i, o⟩ := p
    cases o with
    | list vs => obtain ⟨e, a, ha, ⟨o, ho, hc, hd⟩⟩ := x; exact ⟨o, ho, _, hd⟩
    | tuple vs => obtain ⟨e, a, ha, ⟨o, ho, hc, hd⟩⟩ := x; exact ⟨o, ho, _, hd⟩
    | _ => exact x.elim

theorem countV_length (a : Int) (m : Nat) : (countV a m).length = m := by
  induction m generalizing a with
  | zero => rfl
  | succ m ih => simp [countV, ih]
theorem countV_get (a : Int) (m : Nat) : ∀ {j : Nat}, j < m → (countV a m)[j]? = some (.int (a + j)) := by
  induction m generalizing a with
  | zero => intro j h; omega
  | succ m ih =>
    intro j h
    cases j with
    | zero => simp [countV]
    | succ j => simp only [countV, List.getElem?_cons_succ]; rw [ih (a + 1) (by omega)]; congr 2; omega

section
variable {W : Wd} {n : Nat} {env : Env} {C : Cx}

theorem next_item {A : Around} {ρ : List Addr} {H : H} {s : Shared} {E : Value → Shared → Prop} {Q : Option Value → Shared → Prop} {src : Src} {it : Addr} {j : Nat} {v : V} (hR : RelH W ρ H s) (hs : src.stands H) (hi : ItSt ρ src s.heap it j)
    (hv : src.items[j]? = some v) (h : ∀ v' h' tk, VR ρ v v' → ItSt ρ src h' it (j + 1) → Heap.SameBut it s.heap h' → Q (some v') { s with heap := h', toks := tk }) :
    wpAny (model W.prog W.w) A (pyNext (.ref it)) Q E s := by
  obtain ⟨items, live⟩ := src
  cases live with
  | none =>
    obtain ⟨a, m, e, r⟩ := hi
    simp only at e hv
    rw [e] at hv
    have hj : j < m := by have := (List.getElem?_eq_some_iff.mp hv).1; rwa [countV_length] at this
    rw [countV_get a m hj] at hv
    cases hv
    refine wpAny_pyNext_range_item r (by omega) fun h' hit' hs' => h _ h' _ (VR.int _ _) ⟨a, m, e, ?_⟩ hs'
    have e1 : a + ((j + 1 : Nat) : Int) = a + (j : Int) + 1 := by omega
    have e2 : (m : Int) - ((j + 1 : Nat) : Int) = (m : Int) - (j : Int) - 1 := by omega
    rw [e1, e2]; exact hit'
  | some p =>
    obtain ⟨i, o⟩ := p
    cases o with
    | list vs =>
      obtain ⟨e, a, ha, r⟩ := hi
      simp only at e
      subst e
      obtain ⟨items, hl, rr⟩ := hR.list ha hs
      obtain ⟨x, hx, hvx⟩ := rr.at hv
      exact wpAny_pyNext_list_item r hl.isList (by rw [← Array.getElem?_toList]; exact hx) fun h' hit' hs' => h x h' s.toks hvx ⟨rfl, a, ha, hit'⟩ hs'
    | tuple vs =>
      obtain ⟨e, a, ha, r⟩ := hi
      simp only at e
      subst e
      obtain ⟨items, q, hl, rr⟩ := hR.tup ha hs
      obtain ⟨x, hx, hvx⟩ := rr.at hv
      exact wpAny_pyNext_tuple_item r ⟨_, hl, rfl, q, rfl⟩ (by rw [← Array.getElem?_toList]; exact hx) fun h' hit' hs' => h x h' s.toks hvx ⟨rfl, a, ha, hit'⟩ hs'
    | _ => exact hi.elim

theorem next_end {A : Around} {ρ : List Addr} {H : H} {s : Shared} {E : Value → Shared → Prop} {Q : Option Value → Shared → Prop} {src : Src} {it : Addr} (hA : A.handled = none) (hR : RelH W ρ H s) (hs : src.stands H) (hi : ItSt ρ src s.heap it src.items.length)
    (h : ∀ h' tk, Heap.ExtBut it s.heap h' → Q none { s with heap := h', toks := tk }) :
    wpAny (model W.prog W.w) A (pyNext (.ref it)) Q E s := by
  obtain ⟨items, live⟩ := src
  cases live with
  | none =>
    obtain ⟨a, m, e, r⟩ := hi
    simp only at e
    rw [e, countV_length] at r
    exact wpAny_pyNext_range_end hA r (by omega) fun h' he => h h' s.toks he
  | some p =>
    obtain ⟨i, o⟩ := p
    cases o with
    | list vs =>
      obtain ⟨e, a, ha, r⟩ := hi
      simp only at e
      subst e
      obtain ⟨items, hl, rr⟩ := hR.list ha hs
      have hlen := rr.length
      simp only [Array.length_toList] at hlen
      exact wpAny_pyNext_list_end hA r hl.isList (by simp [hlen]) fun h' he => h h' s.toks he
    | tuple vs =>
      obtain ⟨e, a, ha, r⟩ := hi
      simp only at e
      subst e
      obtain ⟨items, q, hl, rr⟩ := hR.tup ha hs
      have hlen := rr.length
      simp only [Array.length_toList] at hlen
      exact wpAny_pyNext_tuple_end hA r ⟨_, hl, rfl, q, rfl⟩ (by simp [hlen]) fun h' he => h h' s.toks he
    | _ => exact hi.elim

theorem iter_self {A : Around} {ρ : List Addr} {s : Shared} {E : Value → Shared → Prop} {Q : Value → Shared → Prop} {src : Src} {it : Addr} {j : Nat} (hi : ItSt ρ src s.heap it j) (h : Q (.ref it) s) :
    wpAny (model W.prog W.w) A (pyIter (.ref it)) Q E s := by
  obtain ⟨items, live⟩ := src
  cases live with
  | none => obtain ⟨a, m, e, r⟩ := hi; exact wpAny_pyIter_rangeiter r h
  | some p =>
    obtain ⟨i, o⟩ := p
    cases o with
    | list vs => obtain ⟨e, a, ha, r⟩ := hi; exact wpAny_pyIter_listiter r h
    | tuple vs => obtain ⟨e, a, ha, r⟩ := hi; exact wpAny_pyIter_tupleiter r h
    | _ => exact hi.elim

/-- an iterable made into its iterator -/
theorem iter_new {A : Around} {ρ : List Addr} {H : H} {s : Shared} {E : Value → Shared → Prop} {Q : Value → Shared → Prop} {src : Src} {v : V} {v' : Value} (hR : RelH W ρ H s) (hv : VR ρ v v') (hs : srcV v H = some src)
    (h : ∀ ob, ob.isFreed = false → ItSt ρ src (s.heap.push ob) s.heap.objs.size 0 → src.stands H → Q (.ref s.heap.objs.size) { s with heap := s.heap.push ob }) :
    wpAny (model W.prog W.w) A (pyIter v') Q E s := by
  unfold srcV at hs
  split at hs
  · rename_i i
    cases hv with
    | ref _ a hi =>
      split at hs
      · rename_i vs e
        cases hs
        obtain ⟨items, hl, rr⟩ := hR.list hi e
        exact wpAny_pyIter_list hl.isList (h _ rfl ⟨rfl, a, hi, _, Heap.get?_push_size _ rfl, rfl, rfl⟩ e)
      · rename_i vs e
        cases hs
        obtain ⟨items, q, hl, rr⟩ := hR.tup hi e
        exact wpAny_pyIter_tuple ⟨_, hl, rfl, q, rfl⟩ (h _ rfl ⟨rfl, a, hi, _, Heap.get?_push_size _ rfl, rfl, rfl⟩ e)
      · cases hs
  · cases hs

/-! stores -/

theorem Step.then {own : Addr → Prop} {ρ₁ ρ₂ ρ₃ : List Addr} {s₁ s₂ s₃ : Shared} (x : Step no ρ₁ s₁ ρ₂ s₂) (y : Step own ρ₂ s₂ ρ₃ s₃) (h : ∀ b, own b → s₁.heap.get? b = none) : Step no ρ₁ s₁ ρ₃ s₃ := by
  have x' : Step own ρ₁ s₁ ρ₂ s₂ := x.of_no
  exact (x'.trans y).weaken fun b o e q => by rw [h b q] at e; cases e

noncomputable def del (σ : Sto) (v : Nat) : Sto := fun j => if j = v then Option.none else σ j
theorem upd_del (σ : Sto) (v : Nat) (x : V) : upd (del σ v) v x = upd σ v x := by
  funext j; unfold upd del; split <;> rfl
theorem EnvR.weaken {ρ : List Addr} {σ σ' : Sto} {h : Heap} (x : EnvR W env ρ σ h) (hs : ∀ i v, σ' i = some v → σ i = some v) : EnvR W env ρ σ' h := by
  refine ⟨x.kind, x.glob, x.blt, ?_, fun n hn => ?_, x.inj, x.loc, x.new⟩
  · obtain ⟨m, hm, r⟩ := x.ns
    exact ⟨m, hm, fun i v n h1 => r i v n (hs i v h1)⟩
  · obtain ⟨c, y, h1, h2, h3, h4, h5⟩ := x.cell n hn
    exact ⟨c, y, h1, h2, h3, h4, fun i v e => h5 i v (hs i v e)⟩

theorem SameBut.kp {a b : Addr} {h h' : Heap} (hs : Heap.SameBut a h h') (hb : b ≠ a) {o : Obj} (e : h.get? b = some o) : ∃ o', h'.get? b = some o' ∧ Kp o o' := ⟨o, (hs.2 b hb).trans e, .refl o⟩

/-- a heap changed at one address that is neither the small heap's nor the module's -/
theorem RelH.aside {ρ : List Addr} {H : H} {s : Shared} (x : RelH W ρ H s) {b : Addr} {h' : Heap} {tk : Nat} (he : Heap.ExtBut b s.heap h') (hb : b ∉ ρ) (hn : W.h₀.get? b = none) : RelH W ρ H { s with heap := h', toks := tk } :=
  ⟨fun c o e => he c o (fun q => by rw [q, hn] at e; cases e) (x.keep c o e), x.os, x.gens, x.heap.kp fun a ha o e => ⟨o, he a o (fun q => hb (q ▸ ha)) e, .refl o⟩, x.nodup, x.new⟩
theorem EnvR.aside {ρ : List Addr} {σ : Sto} {h h' : Heap} (x : EnvR W env ρ σ h) {b : Addr} (he : Heap.ExtBut b h h') (hl : env.locals ≠ b) (hc : ∀ n c, env.kindOf n = some .cell ∨ env.kindOf n = some .free → env.cells.lookup n = some c → c ≠ b) :
    EnvR W env ρ σ h' := by
  refine ⟨x.kind, x.glob, x.blt, ?_, fun n hn => ?_, x.inj, x.loc, x.new⟩
  · obtain ⟨m, hm, r⟩ := x.ns
    exact ⟨m, ns_kp hm fun o e => ⟨o, he _ o hl e, .refl o⟩, r⟩
  · obtain ⟨c, y, h1, h2, h3, h4, h5⟩ := x.cell n hn
    exact ⟨c, y, h1, isCell_kp h2 fun o e => ⟨o, he _ o (hc n c hn h1) e, .refl o⟩, h3, h4, h5⟩

/-- the frame's own things are no records -/
theorem EnvR.notFields {ρ : List Addr} {σ : Sto} {h : Heap} (x : EnvR W env ρ σ h) {b : Addr} {o : Obj} (e : h.get? b = some o) (hd : (∃ vs, o.data = .fields vs) ∨ ∃ vs k, o.data = .seq vs k) :
    env.locals ≠ b ∧ ∀ n c, env.kindOf n = some .cell ∨ env.kindOf n = some .free → env.cells.lookup n = some c → c ≠ b := by
  refine ⟨fun q => ?_, fun n c hk hc q => ?_⟩
  · obtain ⟨m, ⟨o', es, ep, ho', hd', _⟩, _⟩ := x.ns
    rw [q, e] at ho'; cases ho'
    rcases hd with ⟨vs, hd⟩ | ⟨vs, k, hd⟩ <;> (rw [hd] at hd'; cases hd')
  · obtain ⟨c', y, h1, ⟨o', ho', hd'⟩, _⟩ := x.cell n hk
    rw [hc] at h1; cases h1
    rw [q, e] at ho'; cases ho'
    rcases hd with ⟨vs, hd⟩ | ⟨vs, k, hd⟩ <;> (rw [hd] at hd'; cases hd')

theorem nodup_inj {α : Type} {l : List α} (hn : l.Nodup) {i j : Nat} {a : α} (hi : l[i]? = some a) (hj : l[j]? = some a) : i = j :=
  (List.getElem?_inj (List.getElem?_eq_some_iff.mp hi).1 hn).mp (hi.trans hj.symm)

theorem store_sound {A : Around} {ρ : List Addr} {σ : Sto} {H : H} {s : Shared} {E : Value → Shared → Prop} {Q : Unit → Shared → Prop} {i : Nat} {nm : Str} {v : V} {v' : Value} (hnd : W.T.vars.Nodup) (hR : Rel W env ρ σ H s) (hi : W.T.vars[i]? = some nm)
    (hk : env.kindOf nm = some .local ∨ env.kindOf nm = some .cell) (hv : VR ρ v v')
    (h : ∀ s', Rel W env ρ (upd σ i v) H s' → Step (fun b => (env.kindOf nm = some .local ∧ b = env.locals) ∨ (env.kindOf nm = some .cell ∧ env.cells.lookup nm = some b)) ρ s ρ s' → Q () s') :
    wpAny (model W.prog W.w) A (storeName env nm v') Q E s := by
  rcases hk with hk | hk
  · obtain ⟨m, hm, r⟩ := hR.env.ns
    refine wpAny_storeName_local hk hm (fun h' hn' hs' => ?_) (by rw [hR.env.kind]; rfl)
    refine h _ ⟨hR.toRelH.aside hs'.extBut hR.env.loc hR.env.new, ?_⟩ ?_
    · refine ⟨hR.env.kind, hR.env.glob, hR.env.blt, ⟨_, hn', fun j w nn e1 e2 e3 => ?_⟩, fun nn hnn => ?_, hR.env.inj, hR.env.loc, hR.env.new⟩
      · by_cases hj : j = i
        · subst hj
          rw [hi] at e2; cases e2
          simp only [upd, if_true] at e1; cases e1
          exact ⟨v', by simp, hv⟩
        · simp only [upd, if_neg hj] at e1
          obtain ⟨y, hy, hvy⟩ := r j w nn e1 e2 e3
          have : nn ≠ nm := fun q => hj (nodup_inj hnd (q ▸ e2) hi)
          exact ⟨y, by simp [this, hy], hvy⟩
      · obtain ⟨c, y, h1, h2, h3, h4, h5⟩ := hR.env.cell nn hnn
        have hcl : c ≠ env.locals := fun q => by
          obtain ⟨o, ho, hd⟩ := h2
          obtain ⟨o2, es, ep, ho2, hd2, _⟩ := hm
          rw [q, ho2] at ho; cases ho; rw [hd2] at hd; cases hd
        refine ⟨c, y, h1, h2.sameBut hs' hcl, h3, h4, fun j w e1 e2 => ?_⟩
        have : j ≠ i := fun q => by
          subst q; rw [hi] at e2; cases e2
          rcases hnn with q | q <;> (rw [hk] at q; cases q)
        simp only [upd, if_neg this] at e1
        exact h5 j w e1 e2
    · refine ⟨⟨[], by simp, by simp⟩, fun b o e _ ho => SameBut.kp hs' (fun q => ho (.inl ⟨hk, q⟩)) e, fun b o e => ?_⟩
      by_cases q : b = env.locals
      · subst q; obtain ⟨o', _, _, ho', _⟩ := hn'; exact ⟨o', ho'⟩
      · exact ⟨o, (hs'.2 b q).trans e⟩
  · obtain ⟨c, y, h1, h2, h3, h4, h5⟩ := hR.env.cell nm (.inl hk)
    refine wpAny_storeName_cell hR.env.kind hk h1 h2 fun h' hc' hs' => ?_
    refine h _ ⟨hR.toRelH.aside (tk := s.toks) hs'.extBut h3 h4, ?_⟩ ?_
    · have hcl : env.locals ≠ c := fun q => by
        obtain ⟨o, ho, hd⟩ := h2
        obtain ⟨m, ⟨o2, es, ep, ho2, hd2, _⟩, _⟩ := hR.env.ns
        rw [q, ho] at ho2; cases ho2; rw [hd2] at hd; cases hd
      refine ⟨hR.env.kind, hR.env.glob, hR.env.blt, ?_, fun nn hnn => ?_, hR.env.inj, hR.env.loc, hR.env.new⟩
      · obtain ⟨m, hm, r⟩ := hR.env.ns
        refine ⟨m, hm.sameBut hs' hcl, fun j w nn e1 e2 e3 => ?_⟩
        have : j ≠ i := fun q => by subst q; rw [hi] at e2; cases e2; rw [hk] at e3; cases e3
        simp only [upd, if_neg this] at e1
        exact r j w nn e1 e2 e3
      · obtain ⟨c2, y2, g1, g2, g3, g4, g5⟩ := hR.env.cell nn hnn
        by_cases hq : nn = nm
        · subst hq
          rw [h1] at g1; cases g1
          refine ⟨c, some v', h1, hc', g3, g4, fun j w e1 e2 => ?_⟩
          have hj : j = i := nodup_inj hnd e2 hi
          subst hj
          simp only [upd, if_true] at e1; cases e1
          exact ⟨v', rfl, hv⟩
        · have hcc : c2 ≠ c := fun q => hq (hR.env.inj nn nm c2 g1 (q ▸ h1))
          refine ⟨c2, y2, g1, g2.sameBut hs' hcc, g3, g4, fun j w e1 e2 => ?_⟩
          have : j ≠ i := fun q => by subst q; rw [hi] at e2; cases e2; exact hq rfl
          simp only [upd, if_neg this] at e1
          exact g5 j w e1 e2
    · refine ⟨⟨[], by simp, by simp⟩, fun b o e _ ho => SameBut.kp hs' (fun q => ho (.inr ⟨hk, by rw [q]; exact h1⟩)) e, fun b o e => ?_⟩
      by_cases q : b = c
      · subst q; obtain ⟨o', ho', _⟩ := hc'; exact ⟨o', ho'⟩
      · exact ⟨o, (hs'.2 b q).trans e⟩
end
end Mine

set_option autoImplicit false
set_option linter.unusedVariables false
namespace Mine
open PySem PyProof.Rows

/-! a comprehension's frame -/

theorem forIn_pure {α β : Type} {l : List α} {f : α → β → Sem (ForInStep β)} {g : α → β → β} (h : ∀ x ∈ l, ∀ b, f x b = pure (.yield (g x b))) : ∀ b, forIn l b f = (pure (l.foldl (fun b x => g x b) b) : Sem β) := by
  induction l with
  | nil => intro b; rw [List.forIn_nil]; rfl
  | cons x l ih =>
    intro b
    rw [List.forIn_cons, h x List.mem_cons_self b]
    show forIn l (g x b) f = _
    rw [ih (fun y hy => h y (List.mem_cons_of_mem _ hy))]
    rfl

noncomputable def cloF (env : Env) (x : Str × NameKind) (b : List (Str × Addr)) : List (Str × Addr) := if x.2 == .free then (x.1, (env.cells.lookup x.1).getD 0) :: b else b
noncomputable def clo (env : Env) (names : List (Str × NameKind)) (acc : List (Str × Addr)) : List (Str × Addr) := names.foldl (fun b x => cloF env x b) acc

theorem closureFor_clo {env : Env} {scope : Scope} (h : ∀ x ∈ scope.names, x.2 = .free → ∃ c, env.cells.lookup x.1 = some c) : closureFor scope env = pure (clo env scope.names []) := by
  simp only [closureFor]
  rw [forIn_pure (g := fun x b => cloF env x b) (fun x hx b => ?_)]
  · rfl
  · obtain ⟨nm, k⟩ := x
    unfold cloF
    by_cases hk : k = .free
    · subst hk
      obtain ⟨c, hc⟩ := h (nm, .free) hx rfl
      simp only [cellOf, hc, beq_self_eq_true, if_true]
      rfl
    · have : (k == NameKind.free) = false := by simpa using hk
      simp only [this, Bool.false_eq_true, if_false]

theorem clo_lookup (env : Env) : ∀ (names : List (Str × NameKind)) (acc : List (Str × Addr)) (nm : Str), ((nm, NameKind.free) ∈ names → (clo env names acc).lookup nm = some ((env.cells.lookup nm).getD 0)) ∧ ((nm, NameKind.free) ∉ names → (clo env names acc).lookup nm = acc.lookup nm)
  | [], acc, nm => by simp [clo]
  | (m, k) :: r, acc, nm => by
    have ih := clo_lookup env r (cloF env (m, k) acc) nm
    have e : clo env ((m, k) :: r) acc = clo env r (cloF env (m, k) acc) := rfl
    rw [e]
    by_cases hr : (nm, NameKind.free) ∈ r
    · exact ⟨fun _ => ih.1 hr, fun h => absurd (List.mem_cons_of_mem _ hr) h⟩
    · rw [ih.2 hr]
      unfold cloF
      by_cases hk : k = .free
      · subst hk
        simp only [beq_self_eq_true, if_true, List.lookup_cons]
        by_cases hm : nm = m
        · subst hm; simp
        · have : (nm == m) = false := by simpa using hm
          simp [this, hr, hm]
      · have : (k == NameKind.free) = false := by simpa using hk
        simp only [this, Bool.false_eq_true, if_false]
        refine ⟨fun h => ?_, fun _ => trivial⟩
        rcases List.mem_cons.mp h with q | q
        · cases q; exact absurd rfl hk
        · exact absurd q hr

structure CellsAt (m : Nat) (names : List (Str × NameKind)) (acc cs : List (Str × Addr)) (h : Heap) : Prop where
  own : ∀ nm, (nm, NameKind.cell) ∈ names → ∃ c : Nat, cs.lookup nm = some c ∧ m ≤ c ∧ h.IsCell c none
  oth : ∀ nm, (nm, NameKind.cell) ∉ names → cs.lookup nm = acc.lookup nm
  inj : ∀ nm nm' (c : Nat), m ≤ c → cs.lookup nm = some c → cs.lookup nm' = some c → nm = nm'

theorem cellsAt : ∀ (names : List (Str × NameKind)) (h : Heap) (acc : List (Str × Addr)), (∀ nm (c : Nat), acc.lookup nm = some c → c < h.objs.size) →
    CellsAt h.objs.size names acc (cellsFrom h.objs.size names acc) (pushCells h names) ∧ ∀ nm (c : Nat), (cellsFrom h.objs.size names acc).lookup nm = some c → c < h.objs.size → acc.lookup nm = some c
  | [], h, acc, ha => ⟨⟨fun _ hm => (nomatch hm), fun _ _ => rfl, fun nm nm' c hc e1 _ => absurd (ha nm c e1) (Nat.not_lt.mpr hc)⟩, fun _ _ e _ => e⟩
  | (m, k) :: r, h, acc, ha => by
    by_cases hk : k = .cell
    · subst hk
      have e1 : cellsFrom h.objs.size ((m, NameKind.cell) :: r) acc = cellsFrom (h.objs.size + 1) r ((m, h.objs.size) :: acc) := by simp [cellsFrom]
      have e2 : pushCells h ((m, NameKind.cell) :: r) = pushCells (h.push { cls := .type "cell", data := .cell none }) r := by simp [pushCells]
      rw [e1, e2]
      have hs : (h.push { cls := .type "cell", data := .cell none }).objs.size = h.objs.size + 1 := Heap.size_push ..
      have ih := cellsAt r (h.push { cls := .type "cell", data := .cell none }) ((m, h.objs.size) :: acc) (fun nm c e => by
        rw [hs]
        rw [List.lookup_cons] at e
        cases hb : nm == m with
        | true => rw [hb] at e; have e' : h.objs.size = c := Option.some.inj e; omega
        | false => rw [hb] at e; have := ha nm c e; omega)
      rw [hs] at ih
      obtain ⟨⟨i1, i2, i3⟩, i4⟩ := ih
      have mine : (h.push { cls := .type "cell", data := .cell none }).IsCell h.objs.size none := ⟨_, Heap.get?_push_size _ rfl, rfl⟩
      refine ⟨⟨fun nm hm => ?_, fun nm hm => ?_, fun nm nm' c hc q1 q2 => ?_⟩, fun nm c q hc => ?_⟩
      · by_cases hr : (nm, NameKind.cell) ∈ r
        · obtain ⟨c, a1, a2, a3⟩ := i1 nm hr
          exact ⟨c, a1, by omega, a3⟩
        · have hnm : nm = m := by
            rcases List.mem_cons.mp hm with q | q
            · cases q; rfl
            · exact absurd q hr
          subst hnm
          refine ⟨h.objs.size, by rw [i2 nm hr]; simp, Nat.le_refl _, mine.keeps (pushCells_keeps r _)⟩
      · have hr : (nm, NameKind.cell) ∉ r := fun q => hm (List.mem_cons_of_mem _ q)
        have hne : (nm == m) = false := by simp; rintro rfl; exact hm List.mem_cons_self
        rw [i2 nm hr, List.lookup_cons, hne]
      · by_cases hcm : h.objs.size + 1 ≤ c
        · exact i3 nm nm' c hcm q1 q2
        · have hc' : c = h.objs.size := by omega
          subst hc'
          have b1 := i4 nm _ q1 (Nat.lt_succ_self _)
          have b2 := i4 nm' _ q2 (Nat.lt_succ_self _)
          have key : ∀ x, List.lookup x ((m, h.objs.size) :: acc) = some h.objs.size → x = m := fun x e => by
            rw [List.lookup_cons] at e
            cases hb : x == m with
            | true => exact beq_iff_eq.mp hb
            | false => rw [hb] at e; exact absurd (ha x _ e) (Nat.lt_irrefl _)
          rw [key nm b1, key nm' b2]
      · have b1 := i4 nm c q (by omega)
        rw [List.lookup_cons] at b1
        cases hb : nm == m with
        | true => rw [hb] at b1; have e' : h.objs.size = c := Option.some.inj b1; omega
        | false => rw [hb] at b1; exact b1
    · have hk' : (k == NameKind.cell) = false := by simpa using hk
      have e1 : cellsFrom h.objs.size ((m, k) :: r) acc = cellsFrom h.objs.size r acc := by simp [cellsFrom, hk']
      have e2 : pushCells h ((m, k) :: r) = pushCells h r := by simp [pushCells, hk']
      rw [e1, e2]
      obtain ⟨⟨i1, i2, i3⟩, i4⟩ := cellsAt r h acc ha
      have hmem : ∀ nm, (nm, NameKind.cell) ∈ (m, k) :: r ↔ (nm, NameKind.cell) ∈ r := fun nm => by
        simp only [List.mem_cons, Prod.mk.injEq]
        constructor
        · rintro (⟨_, q⟩ | q)
          · exact absurd q.symm hk
          · exact q
        · exact .inr
      exact ⟨⟨fun nm hm => i1 nm ((hmem nm).mp hm), fun nm hm => i2 nm fun q => hm ((hmem nm).mpr q), i3⟩, i4⟩

theorem newEnv_comp {M : Model} {A : Around} {E : Value → Shared → Prop} {s : Shared} {scope : Scope} {globals : Addr} {closure : List (Str × Addr)} {qual : Str} {outer : Env} {Q : Env → Shared → Prop}
    (hQ : Q (newEnv scope s.heap.objs.size globals (cellsFrom (s.heap.objs.size + 1) scope.names closure) qual none .none (some outer) builtinsNs)
      { s with heap := pushCells (s.heap.push { cls := .type "dict", data := .dict #[] }) scope.names }) :
    wpAny M A (newFunctionEnv scope globals closure [] qual none .none (some outer)) Q E s := by
  simp only [newFunctionEnv, Option.isSome_some, if_true]
  refine wpAny_bind (wpAny_alloc ?_)
  refine wpAny_bind (wpAny_layCells _ (fun name kind cells => by cases hkc : kind == NameKind.cell <;> simp [hkc]) _ _ _ _ ?_)
  rw [show ({ s with heap := s.heap.push { cls := .type "dict", data := .dict #[] } } : Shared).heap.objs.size = s.heap.objs.size + 1 from Heap.size_push ..]
  exact wpAny_bind (wpAny_pure (wpAny_pure hQ))

/-- kinds in a comprehension's frame -/
theorem relabel_lookup {env : Env} {scope : Scope} (nm : Str) : (relabel scope env).names.lookup nm = (scope.names.lookup nm).map fun k => if (k == .free && env.scope.kind == .function && env.kindOf nm == some .cell) then .cell else k := by
  obtain ⟨sk, names, g1, g2, mo⟩ := scope
  simp only [relabel]
  induction names with
  | nil => rfl
  | cons x r ih =>
    obtain ⟨m, k⟩ := x
    rw [List.map_cons]
    by_cases hm : nm = m
    · subst hm
      by_cases hc : (k == NameKind.free && env.scope.kind == .function && env.kindOf nm == some .cell) = true
      · simp only [hc, if_true, List.lookup_cons, beq_self_eq_true, Option.map_some]
      · simp only [hc, Bool.false_eq_true, if_false, List.lookup_cons, beq_self_eq_true, Option.map_some]
    · have hb : (nm == m) = false := by simpa using hm
      by_cases hc : (k == NameKind.free && env.scope.kind == .function && env.kindOf m == some .cell) = true
      · simp only [hc, if_true, List.lookup_cons, hb]; exact ih
      · simp only [hc, Bool.false_eq_true, if_false, List.lookup_cons, hb]; exact ih
end Mine

set_option autoImplicit false
set_option linter.unusedVariables false
namespace Mine
open PySem PyProof.Rows

section
variable {W : Wd} {n : Nat} {env : Env} {C : Cx}

noncomputable def cenvOf (scope : Scope) (env : Env) (L : Addr) : Env :=
  { newEnv scope L env.globals (cellsFrom (L + 1) scope.names (clo env scope.names [])) env.qual none .none (some env) builtinsNs with scope := relabel scope env }

structure CompOk (T : Tab) (sc outer : Scope) (tgt : Str) : Prop where
  kind : sc.kind = .function
  loc : ∀ x ∈ sc.names, x.2 = .local → sc.names.lookup x.1 = some .local
  fre : ∀ x ∈ sc.names, x.2 = .free → (outer.names.lookup x.1 = some .cell ∨ outer.names.lookup x.1 = some .free) ∧ sc.names.lookup x.1 = some .free
  cel : ∀ x ∈ sc.names, x.2 = .cell → sc.names.lookup x.1 = some .cell
  own : ∀ x ∈ sc.names, (x.2 = .local ∨ x.2 = .cell) → x.1 = tgt ∨ x.1 ∉ T.vars
  tgt : sc.names.lookup tgt = some .local ∨ sc.names.lookup tgt = some .cell

theorem cenv_kind {scope : Scope} {L : Addr} (nm : Str) : (cenvOf scope env L).kindOf nm = (scope.names.lookup nm).map fun k => if (k == .free && env.scope.kind == .function && env.kindOf nm == some .cell) then .cell else k := relabel_lookup nm
theorem cenv_cell {scope : Scope} {L : Addr} {nm : Str} (h : (cenvOf scope env L).kindOf nm = some .cell ∨ (cenvOf scope env L).kindOf nm = some .free) : scope.names.lookup nm = some .cell ∨ scope.names.lookup nm = some .free := by
  rw [cenv_kind] at h
  cases hl : scope.names.lookup nm with
  | none => simp [hl] at h
  | some k =>
    rw [hl] at h
    simp only [Option.map_some, Option.some.injEq] at h
    split at h
    · rename_i hc; simp only [Bool.and_eq_true, beq_iff_eq] at hc; exact .inr (by rw [hc.1.1])
    · rcases h with h | h
      · exact .inl (by rw [h])
      · exact .inr (by rw [h])
theorem cenv_local {scope : Scope} {L : Addr} {nm : Str} (h : (cenvOf scope env L).kindOf nm = some .local) : scope.names.lookup nm = some .local := by
  rw [cenv_kind] at h
  cases hl : scope.names.lookup nm with
  | none => simp [hl] at h
  | some k =>
    rw [hl] at h
    simp only [Option.map_some, Option.some.injEq] at h
    split at h
    · cases h
    · rw [h]

theorem cenv_scOk {scope : Scope} {L : Addr} : ScOk (cenvOf scope env L) scope := by
  refine ⟨fun nm h => ?_, fun nm h => ?_, fun nm h => ?_⟩
  · rw [cenv_kind, h]; rfl
  · rw [cenv_kind]
    rcases h with h | h
    · rw [h]; exact .inl rfl
    · rw [h]; simp only [Option.map_some, Option.some.injEq]
      split
      · exact .inl rfl
      · exact .inr rfl
  · rw [cenv_kind, h]; rfl

/-- the frame of a comprehension, made anew -/
theorem cenv_rel {ρ : List Addr} {σ : Sto} {H : H} {s : Shared} {scope outer : Scope} {tgt : Str} {v : Nat} (hnd : W.T.vars.Nodup) (hR : Rel W env ρ σ H s) (hsc : ScOk env outer) (ok : CompOk W.T scope outer tgt) (hv : W.T.vars[v]? = some tgt) :
    Rel W (cenvOf scope env s.heap.objs.size) ρ (del σ v) H { s with heap := pushCells (s.heap.push { cls := .type "dict", data := .dict #[] }) scope.names } ∧
    (∀ b o, s.heap.get? b = some o → (pushCells (s.heap.push { cls := .type "dict", data := .dict #[] }) scope.names).get? b = some o) ∧
    (∀ c, ((cenvOf scope env s.heap.objs.size).kindOf tgt = some .local ∧ c = (cenvOf scope env s.heap.objs.size).locals) ∨ ((cenvOf scope env s.heap.objs.size).kindOf tgt = some .cell ∧ (cenvOf scope env s.heap.objs.size).cells.lookup tgt = some c) → s.heap.objs.size ≤ c) ∧
    (∃ m, (pushCells (s.heap.push { cls := .type "dict", data := .dict #[] }) scope.names).Ns s.heap.objs.size m) := by
  have keep : ∀ b o, s.heap.get? b = some o → (pushCells (s.heap.push { cls := .type "dict", data := .dict #[] }) scope.names).get? b = some o := fun b o e => pushCells_keeps _ _ b o (Heap.get?_push_of_some _ e)
  have hsz : (s.heap.push { cls := .type "dict", data := .dict #[] }).objs.size = s.heap.objs.size + 1 := Heap.size_push ..
  have hns : (pushCells (s.heap.push { cls := .type "dict", data := .dict #[] }) scope.names).Ns s.heap.objs.size fun _ => none := (Heap.Ns.new s.heap (.type "dict")).keeps (pushCells_keeps _ _)
  -- names that are free in the comprehension lie in cells of the frame around
  have fre : ∀ nm, (nm, NameKind.free) ∈ scope.names → ∃ c x, env.cells.lookup nm = some c ∧ s.heap.IsCell c x ∧ c ∉ ρ ∧ W.h₀.get? c = none ∧ ∀ i w, σ i = some w → W.T.vars[i]? = some nm → ∃ y, x = some y ∧ VR ρ w y := fun nm hm =>
    hR.env.cell nm (hsc.cel nm (ok.fre _ hm rfl).1)
  have clt : ∀ nm (c : Nat), (clo env scope.names []).lookup nm = some c → c < s.heap.objs.size + 1 := fun nm c e => by
    by_cases hm : (nm, NameKind.free) ∈ scope.names
    · rw [(clo_lookup env scope.names [] nm).1 hm] at e
      obtain ⟨c', x, h1, h2, _⟩ := fre nm hm
      rw [h1] at e
      have e' : c' = c := Option.some.inj e
      have := h2.lt
      have q : c < s.heap.objs.size := e' ▸ this
      omega
    · rw [(clo_lookup env scope.names [] nm).2 hm] at e; simp at e
  have cl := cellsAt scope.names (s.heap.push { cls := .type "dict", data := .dict #[] }) (clo env scope.names []) (by rw [hsz]; exact clt)
  rw [hsz] at cl
  obtain ⟨⟨c1, c2, c3⟩, c4⟩ := cl
  have fresh := hR.fresh (Heap.get?_none_of_le (Nat.le_refl s.heap.objs.size))
  have freshAt : ∀ c : Nat, s.heap.objs.size ≤ c → c ∉ ρ ∧ W.h₀.get? c = none := fun c hc => hR.toRelH.fresh (Heap.get?_none_of_le hc)
  -- where a name's cell lies
  have at_ : ∀ nm, (cenvOf scope env s.heap.objs.size).cells.lookup nm = (cellsFrom (s.heap.objs.size + 1) scope.names (clo env scope.names [])).lookup nm := fun _ => rfl
  have ownV : ∀ nm i w, (scope.names.lookup nm = some .local ∨ scope.names.lookup nm = some .cell) → del σ v i = some w → W.T.vars[i]? = some nm → False := fun nm i w hk e1 e2 => by
    have hm : nm = tgt ∨ nm ∉ W.T.vars := by
      rcases hk with hk | hk
      · exact ok.own _ (mem_of_lookup hk) (.inl rfl)
      · exact ok.own _ (mem_of_lookup hk) (.inr rfl)
    rcases hm with rfl | hm
    · have : i = v := nodup_inj hnd e2 hv
      subst this
      simp [del] at e1
    · exact hm (List.mem_of_getElem? e2)
  have freeCell : ∀ nm, scope.names.lookup nm = some .free → (cellsFrom (s.heap.objs.size + 1) scope.names (clo env scope.names [])).lookup nm = env.cells.lookup nm := fun nm hk => by
    have hm := mem_of_lookup hk
    have hnc : (nm, NameKind.cell) ∉ scope.names := fun q => by have := ok.cel _ q rfl; simp only at this; rw [hk] at this; cases this
    rw [c2 nm hnc, (clo_lookup env scope.names [] nm).1 hm]
    obtain ⟨c, x, h1, _⟩ := fre nm hm
    rw [h1]; rfl
  refine ⟨⟨hR.toRelH.grow (tk := s.toks) keep, ?_⟩, keep, ?_, _, hns⟩
  · refine ⟨ok.kind, hR.env.glob, hR.env.blt, ⟨_, hns, fun i w nm e1 e2 e3 => (ownV nm i w (.inl (cenv_local e3)) e1 e2).elim⟩, fun nm hk => ?_, fun nm nm' c e1 e2 => ?_, fresh.1, fresh.2.1⟩
    · rcases cenv_cell hk with hk | hk
      · obtain ⟨c, a1, a2, a3⟩ := c1 nm (mem_of_lookup hk)
        have f := freshAt c (by omega)
        exact ⟨c, none, a1, a3, f.1, f.2, fun i w e1 e2 => (ownV nm i w (.inr hk) e1 e2).elim⟩
      · obtain ⟨c, x, h1, h2, h3, h4, h5⟩ := fre nm (mem_of_lookup hk)
        refine ⟨c, x, by rw [at_, freeCell nm hk]; exact h1, h2.keeps keep, h3, h4, fun i w e1 e2 => h5 i w ?_ e2⟩
        unfold del at e1
        split at e1
        · cases e1
        · exact e1
    · rw [at_] at e1 e2
      by_cases hc : s.heap.objs.size + 1 ≤ c
      · exact c3 nm nm' c hc e1 e2
      · have l1 := c4 nm c e1 (Nat.lt_of_not_le hc)
        have l2 := c4 nm' c e2 (Nat.lt_of_not_le hc)
        have key : ∀ x, (clo env scope.names []).lookup x = some c → env.cells.lookup x = some c := fun x e => by
          by_cases hm : (x, NameKind.free) ∈ scope.names
          · rw [(clo_lookup env scope.names [] x).1 hm] at e
            obtain ⟨c', y, h1, _⟩ := fre x hm
            rw [h1] at e ⊢; exact e
          · rw [(clo_lookup env scope.names [] x).2 hm] at e; simp at e
        exact hR.env.inj nm nm' c (key nm l1) (key nm' l2)
  · rintro c (⟨_, rfl⟩ | ⟨hk, e⟩)
    · exact Nat.le_refl _
    · rw [at_] at e
      rcases ok.tgt with ht | ht
      · rw [cenv_kind, ht] at hk; simp at hk
      · obtain ⟨c', a1, a2, _⟩ := c1 tgt (mem_of_lookup ht)
        rw [a1] at e; cases e; omega
end
end Mine

set_option autoImplicit false
set_option linter.unusedVariables false
namespace Mine
open PySem PyProof.Rows

section
variable {W : Wd} {n : Nat} {env : Env} {C : Cx}

theorem testsR_exc : ∀ (ts : List (H → R V)) (h : H) (c : Nat) (h' : H), testsR ts h ≠ .exc c h'
  | [], h, c, h' => by simp [testsR]
  | t :: ts, h, c, h' => by
    simp only [testsR]
    split
    · split
      · exact testsR_exc ts _ c h'
      · simp
      · simp
    · simp
theorem compR_exc {src : Src} {tests : V → H → R Bool} {elt : V → H → R V} : ∀ (vs : List V) (h : H) (c : Nat) (h' : H), compR src tests elt vs h ≠ .exc c h'
  | [], h, c, h' => by simp only [compR]; split <;> simp
  | v :: vs, h, c, h' => by
    simp only [compR]
    split
    · split
      · split
        · split <;> simp
        · simp
      · exact compR_exc vs _ c h'
      · simp
    · simp

theorem tests_sound {xs : List X} {es : List Expr} (h : SimTAll W n env C xs es) : ∀ A ρ σ H s (Q : Bool → Shared → Prop) E, AOk A n → Rel W env ρ σ H s → Post W env ρ σ s BR (testsR (evT C xs σ) H) Q E →
    wpAny (model W.prog W.w) A (forIn es true fun c r => if r = true then do let ok ← isTrue c env (eval c env); pure (ForInStep.yield ok) else pure (ForInStep.yield r)) Q E s := by
  have skip : ∀ (es : List Expr) A (Q : Bool → Shared → Prop) E s, Q false s → wpAny (model W.prog W.w) A (forIn es false fun c r => if r = true then do let ok ← isTrue c env (eval c env); pure (ForInStep.yield ok) else pure (ForInStep.yield r)) Q E s := by
    intro es
    induction es with
    | nil => intro A Q E s hq; rw [List.forIn_nil]; exact wpAny_pure hq
    | cons e es ih =>
      intro A Q E s hq
      rw [List.forIn_cons]
      simp only [Bool.false_eq_true, if_false]
      exact wpAny_bind (wpAny_pure (ih A Q E s hq))
  induction h with
  | nil => intro A ρ σ H s Q E hA hR hP; rw [List.forIn_nil]; exact wpAny_pure (post_same hR hP rfl)
  | @cons x e xs es hx _ ih =>
    intro A ρ σ H s Q E hA hR hP
    rw [List.forIn_cons]
    simp only [if_true]
    refine wpAny_bind (wpAny_bind (hx A ρ σ H s _ _ hA hR ?_))
    simp only [evT, testsR] at hP
    unfold evTr
    cases hr : ev C x σ H with
    | stuck => rw [hr] at hP; exact hP.elim
    | exc c h => rw [hr] at hP; exact hP.elim
    | ok v H1 =>
      rw [hr] at hP
      simp only [R.bind]
      simp only at hP
      cases ht : truthV v with
      | none => rw [ht] at hP; exact hP.elim
      | some t =>
        rw [ht] at hP
        intro b ρ1 s1 st1 r1 hb
        have hb' : t = b := hb
        subst hb'
        refine wpAny_pure ?_
        cases t with
        | true =>
          refine ih A ρ1 σ H1 s1 Q E hA r1 ?_
          revert hP
          show Post W env ρ σ s BR (testsR (evT C xs σ) H1) Q E → _
          generalize testsR (evT C xs σ) H1 = q
          cases q with
          | stuck => exact id
          | exc c h => exact fun hP e ρ2 s2 st2 => hP e ρ2 s2 (st1.trans st2)
          | ok c h => exact fun hP e ρ2 s2 st2 => hP e ρ2 s2 (st1.trans st2)
        | false => exact skip es A Q E s1 (hP false ρ1 s1 st1 r1 rfl)

theorem Step.ext_ {own : Addr → Prop} {ρ ρ' : List Addr} {s₀ s : Shared} {b : Addr} {h' : Heap} {tk : Nat} (x : Step own ρ s₀ ρ' s) (he : Heap.ExtBut b s.heap h') (hb : s₀.heap.get? b = none) : Step own ρ s₀ ρ' { s with heap := h', toks := tk } := by
  refine ⟨x.ext, fun c o e hc hn => ?_, fun c o e => ?_⟩
  · obtain ⟨o', e', k⟩ := x.keep c o e hc hn
    exact ⟨o', he c o' (fun q => by rw [q, hb] at e; cases e) e', k⟩
  · obtain ⟨o', e'⟩ := x.live c o e
    exact ⟨o', he c o' (fun q => by rw [q, hb] at e; cases e) e'⟩
theorem ItSt.step {own : Addr → Prop} {ρ ρ' : List Addr} {s s' : Shared} {src : Src} {it : Addr} {j : Nat} (x : ItSt ρ src s.heap it j) (st : Step own ρ s ρ' s') (h1 : it ∉ ρ) (h2 : ¬ own it) : ItSt ρ' src s'.heap it j := by
  obtain ⟨δ, rfl, _⟩ := st.ext
  exact (x.keep fun o e => st.keep it o e h1 h2).mono
theorem plain_step {own : Addr → Prop} {ρ ρ' : List Addr} {s s' : Shared} {D : Addr} {ys : Array Value} (x : s.heap.PlainList D ys) (st : Step own ρ s ρ' s') (h1 : D ∉ ρ) (h2 : ¬ own D) : s'.heap.PlainList D ys := by
  obtain ⟨m, e⟩ := x
  obtain ⟨o', e', k⟩ := st.keep D _ e h1 h2
  exact ⟨m, by rw [e', k.eq (by simp)]⟩

/-- the turns of a comprehension -/
theorem comp_loop {A : Around} {ρ : List Addr} {σ : Sto} {s₀ : Shared} {RR : Result → Shared → Prop} {src : Src} {it D : Addr} {v : Nat} {tgt : Str} {px pos : Pos} {iter elt : Expr} {ifs : List Expr} {scope : Scope} {xelt : X} {xifs : List X} {vs : List V} {H2 : H}
    (hA : AOk A n) (hnd : W.T.vars.Nodup) (hv : W.T.vars[v]? = some tgt) (hk : env.kindOf tgt = some .local ∨ env.kindOf tgt = some .cell)
    (helt : Sim W n env VR (eval elt env) (ev C xelt)) (hifs : SimTAll W n env C xifs ifs) (hsz : src.items.length ≤ big)
    (hown : ∀ b, ((env.kindOf tgt = some .local ∧ b = env.locals) ∨ (env.kindOf tgt = some .cell ∧ env.cells.lookup tgt = some b)) → s₀.heap.get? b = none)
    (hD0 : s₀.heap.get? D = none) (hit0 : s₀.heap.get? it = none) (hDit : D ≠ it) (hDn : W.h₀.get? D = none) (hitn : W.h₀.get? it = none)
    (hRR : ∀ ρ' s' ys, Step no ρ s₀ ρ' s' → Rel W env ρ' (del σ v) H2 s' → s'.heap.PlainList D ys → VRs ρ' vs ys.toList → D ∉ ρ' → RR (.ok .next) s') :
    ∀ (k : Nat) (s : Shared), (∃ rest done vsD vsR ρ' H' ys, k = rest.length + 1 ∧ src.items = done ++ rest ∧ vs = vsD ++ vsR ∧ vsD.length ≤ done.length ∧ compR src (fun x h2 => testsR (evT C xifs (upd σ v x)) h2) (fun x h2 => ev C xelt (upd σ v x) h2) rest H' = .ok vsR H2 ∧
      Step no ρ s₀ ρ' s ∧ Rel W env ρ' (del σ v) H' s ∧ ItSt ρ' src s.heap it done.length ∧ s.heap.PlainList D ys ∧ VRs ρ' vsD ys.toList ∧ D ∉ ρ' ∧ it ∉ ρ') →
    codeAny (model W.prog W.w) A (.compLoop (.ListComp elt [⟨.Name tgt px, iter, ifs, 0⟩] scope pos) 0 (.ref it) (.ref D) env) RR s := by
  intro k s hI
  refine codeAny_compLoop_tests (fun k s => ∃ rest done vsD vsR ρ' H' ys, k = rest.length + 1 ∧ src.items = done ++ rest ∧ vs = vsD ++ vsR ∧ vsD.length ≤ done.length ∧ compR src (fun x h2 => testsR (evT C xifs (upd σ v x)) h2) (fun x h2 => ev C xelt (upd σ v x) h2) rest H' = .ok vsR H2 ∧
      Step no ρ s₀ ρ' s ∧ Rel W env ρ' (del σ v) H' s ∧ ItSt ρ' src s.heap it done.length ∧ s.heap.PlainList D ys ∧ VRs ρ' vsD ys.toList ∧ D ∉ ρ' ∧ it ∉ ρ') ?_ k hI
  clear hI s k
  rintro k s ⟨rest, done, vsD, vsR, ρ', H', ys, rfl, hsrc, hvs, hle, hC, st, hR, hIt, hPl, hys, hDρ, hiρ⟩
  obtain ⟨oi, hoi, hfi⟩ := hIt.alive
  have hni := hR.env.notFields hoi (.inl hfi)
  cases rest with
  | nil =>
    simp only [compR] at hC
    split at hC
    · rename_i hst
      cases hC
      have hl : done.length = src.items.length := by rw [hsrc]; simp
      rw [hl] at hIt
      refine next_end hA.1 hR.toRelH hst hIt fun h' tk he => ?_
      have hR' : Rel W env ρ' (del σ v) H2 { s with heap := h', toks := tk } := ⟨hR.toRelH.aside he hiρ hitn, hR.env.aside he hni.1 hni.2⟩
      refine hRR ρ' _ ys (st.ext_ he hit0) hR' (hPl.extBut he hDit) ?_ hDρ
      rw [hvs, List.append_nil]; exact hys
    · cases hC
  | cons x rest =>
    simp only [compR] at hC
    split at hC
    · rename_i hst
      have hx : src.items[done.length]? = some x := by rw [hsrc]; simp
      refine next_item hR.toRelH hst hIt hx fun x' h1 tk1 hxx hIt1 hs1 => ?_
      have R1 : Rel W env ρ' (del σ v) H' { s with heap := h1, toks := tk1 } := ⟨hR.toRelH.aside hs1.extBut hiρ hitn, hR.env.aside hs1.extBut hni.1 hni.2⟩
      have st1 : Step no ρ s₀ ρ' { s with heap := h1, toks := tk1 } := st.ext_ hs1.extBut hit0
      have hPl1 : h1.PlainList D ys := hPl.extBut hs1.extBut hDit
      refine wpAny_assign_Name (store_sound hnd R1 hv hk hxx fun s2 R2 st2 => ?_)
      rw [upd_del] at R2
      obtain ⟨mD, eD⟩ := id hPl1
      obtain ⟨oI, eI, fI⟩ := hIt1.alive
      have nl := R1.env.notFields eD (.inr ⟨_, _, rfl⟩)
      have ni := R1.env.notFields eI (.inl fI)
      have noD : ¬ ((env.kindOf tgt = some .local ∧ D = env.locals) ∨ (env.kindOf tgt = some .cell ∧ env.cells.lookup tgt = some D)) := by
        rintro (⟨_, q⟩ | ⟨q1, q2⟩)
        · exact nl.1 q.symm
        · exact nl.2 tgt D (.inl q1) q2 rfl
      have noI : ¬ ((env.kindOf tgt = some .local ∧ it = env.locals) ∨ (env.kindOf tgt = some .cell ∧ env.cells.lookup tgt = some it)) := by
        rintro (⟨_, q⟩ | ⟨q1, q2⟩)
        · exact ni.1 q.symm
        · exact ni.2 tgt it (.inl q1) q2 rfl
      have hPl2 := plain_step hPl1 st2 hDρ noD
      have hIt2 := ItSt.step (s := { s with heap := h1, toks := tk1 }) hIt1 st2 hiρ noI
      have st2' : Step no ρ s₀ ρ' s2 := st1.then st2 hown
      have alD2 : ∃ o, s2.heap.get? D = some o := let ⟨m, e⟩ := hPl2; ⟨_, e⟩
      have alI2 : ∃ o, s2.heap.get? it = some o := let ⟨o, e, _⟩ := hIt2.alive; ⟨o, e⟩
      refine tests_sound hifs A ρ' (upd σ v x) H' s2 _ _ hA R2 ?_
      cases hT : testsR (evT C xifs (upd σ v x)) H' with
      | stuck => rw [hT] at hC; cases hC
      | exc c h => rw [hT] at hC; cases hC
      | ok t H1 =>
        rw [hT] at hC
        intro t' ρ2 s3 st3 R3 ht
        have ht' : t = t' := ht
        subst ht'
        have hDρ2 : D ∉ ρ2 := let ⟨o, e⟩ := alD2; st3.fresh e hDρ
        have hiρ2 : it ∉ ρ2 := let ⟨o, e⟩ := alI2; st3.fresh e hiρ
        have hPl3 := plain_step hPl2 st3 hDρ (fun q => q)
        have hIt3 := hIt2.step st3 hiρ (fun q => q)
        have st3' : Step no ρ s₀ ρ2 s3 := st2'.trans st3
        have wk : ∀ i w, del σ v i = some w → upd σ v x i = some w := fun i w e => by
          unfold del at e; split at e
          · cases e
          · rename_i hne; unfold upd; rw [if_neg hne]; exact e
        cases t with
        | false =>
          simp only at hC
          rw [if_neg (by decide)]
          refine ⟨rest.length + 1, by simp, rest, done ++ [x], vsD, vsR, ρ2, H1, ys, rfl, by rw [hsrc]; simp, hvs, by simp; omega, hC, st3', ⟨R3.toRelH, R3.env.weaken wk⟩, ?_, hPl3, st3.vrs hys, hDρ2, hiρ2⟩
          simpa using hIt3
        | true =>
          simp only at hC
          rw [if_pos rfl]
          refine helt A ρ2 (upd σ v x) H1 s3 _ _ hA R3 ?_
          cases hE : ev C xelt (upd σ v x) H1 with
          | stuck => rw [hE] at hC; cases hC
          | exc c h => rw [hE] at hC; cases hC
          | ok y H1' =>
            rw [hE] at hC
            simp only at hC
            cases hC' : compR src (fun x h2 => testsR (evT C xifs (upd σ v x)) h2) (fun x h2 => ev C xelt (upd σ v x) h2) rest H1' with
            | stuck => rw [hC'] at hC; cases hC
            | exc c h => rw [hC'] at hC; cases hC
            | ok vsR' H3 =>
              rw [hC'] at hC
              cases hC
              intro y' ρ3 s4 st4 R4 hy
              have alD3 : ∃ o, s3.heap.get? D = some o := let ⟨m, e⟩ := hPl3; ⟨_, e⟩
              have alI3 : ∃ o, s3.heap.get? it = some o := let ⟨o, e, _⟩ := hIt3.alive; ⟨o, e⟩
              have hDρ3 : D ∉ ρ3 := let ⟨o, e⟩ := alD3; st4.fresh e hDρ2
              have hiρ3 : it ∉ ρ3 := let ⟨o, e⟩ := alI3; st4.fresh e hiρ2
              have hPl4 := plain_step hPl3 st4 hDρ2 (fun q => q)
              have hIt4 := hIt3.step st4 hiρ2 (fun q => q)
              have hlen := hys.length
              simp only [Array.length_toList] at hlen
              have hdl : done.length ≤ src.items.length := by rw [hsrc]; simp
              have hb := big_le
              refine wpAny_list_append_plain hPl4 (fun h5 hl5 hs5 => ?_) (by omega)
              obtain ⟨mE, eE⟩ := id hPl4
              have nD := R4.env.notFields eE (.inr ⟨_, _, rfl⟩)
              refine ⟨rest.length + 1, by simp, rest, done ++ [x], vsD ++ [y], vsR', ρ3, H1', ys.push y', rfl, by rw [hsrc]; simp, by rw [hvs]; simp, by simp; omega, hC',
                (st3'.trans st4).ext_ (tk := s4.toks) hs5.extBut hD0, ⟨R4.toRelH.aside (tk := s4.toks) hs5.extBut hDρ3 hDn, (R4.env.aside hs5.extBut nD.1 nD.2).weaken wk⟩, ?_, hl5, ?_, hDρ3, hiρ3⟩
              · have := hIt4.keep (h' := h5) fun o e => ⟨o, (hs5.2 it (Ne.symm hDit)).trans e, .refl o⟩
                simpa using this
              · rw [Array.toList_push]
                exact ((st3.trans st4).vrs hys).snoc hy
    · cases hC
end
end Mine

set_option autoImplicit false
set_option linter.unusedVariables false
namespace Mine
open PySem PyProof.Rows

noncomputable def PostI (W : Wd) (env : Env) (ρ : List Addr) (σ : Sto) (s : Shared) (r : R Src) (Q : Value → Shared → Prop) (E : Value → Shared → Prop) : Prop := match r with
  | .ok src H' => ∀ a ρ' s', Step no ρ s ρ' s' → Rel W env ρ' σ H' s' → ItSt ρ' src s'.heap a 0 → src.stands H' → a ∉ ρ' → W.h₀.get? a = none → s.heap.get? a = none → Q (.ref a) s'
  | .exc c H' => ∀ e ρ' s', Step no ρ s ρ' s' → Rel W env ρ' σ H' s' → ExcAt W ρ' e c s'.heap → E e s'
  | .stuck => False

noncomputable def SimIt (W : Wd) (n : Nat) (env : Env) (C : Cx) (it : It) (e : Expr) : Prop :=
  ∀ A ρ σ H s Q E, AOk A n → Rel W env ρ σ H s → PostI W env ρ σ s (evS C it σ H) Q E → wpAny (model W.prog W.w) A (eval e env) (fun x s₁ => wpAny (model W.prog W.w) A (pyIter x) Q E s₁) E s

section
variable {W : Wd} {n : Nat} {env : Env} {C : Cx}

theorem callWith_type {A : Around} {s : Shared} {E : Value → Shared → Prop} {Q : Value → Shared → Prop} {pos : Pos} {T : String} {es : List Expr}
    (h : wpAny (model W.prog W.w) A (evalArgs (.type T) true (trees env es) []) (fun a s₁ => wpAny (model W.prog W.w) A (call (.type T) a.pos a.kw) Q E s₁) E s) : wpAny (model W.prog W.w) A (callWith pos (.type T) [] (trees env es) []) Q E s := by
  unfold callWith
  refine wpAny_bind (wpAny_holding (wpAny_mono h (fun a s₁ h₁ => wpAny_bind (wpAny_standAt ?_)) fun _ _ x => x))
  simp only [trees_any, List.any_nil, Bool.or_false]
  refine wpAny_bind (wpAny_pure ?_)
  exact wpAny_bind (wpAny_mono h₁ (fun r s₂ hr => wpAny_bind (wpAny_holding (wpAny_point (wpAny_pure hr)))) fun _ _ x => x)

theorem step_none {own : Addr → Prop} {ρ ρ' : List Addr} {s s' : Shared} (st : Step own ρ s ρ' s') {a : Addr} (h : s'.heap.get? a = none) : s.heap.get? a = none := by
  cases q : s.heap.get? a with
  | none => rfl
  | some o => obtain ⟨o', e⟩ := st.live a o q; rw [h] at e; cases e

theorem simIt_val {x : X} {e : Expr} (hx : Sim W n env VR (eval e env) (ev C x)) : SimIt W n env C (.val x) e := by
  intro A ρ σ H s Q E hA hR hP
  refine hx A ρ σ H s _ _ hA hR ?_
  revert hP
  rw [evS]
  cases ev C x σ H with
  | stuck => exact id
  | exc c h => exact id
  | ok v H1 =>
    simp only [R.bind]
    cases hs : srcV v H1 with
    | none => exact fun h => h.elim
    | some src =>
      intro hP v' ρ1 s1 st1 r1 hv
      refine iter_new r1.toRelH hv hs fun ob hob hIt hst => ?_
      have keep : ∀ b o, s1.heap.get? b = some o → (s1.heap.push ob).get? b = some o := fun b o e => Heap.get?_push_of_some ob e
      have fr := r1.toRelH.fresh (Heap.get?_none_of_le (Nat.le_refl s1.heap.objs.size))
      exact hP _ ρ1 _ (st1.trans (Step.grow keep)) (r1.grow (tk := s1.toks) keep) hIt hst fr.1 fr.2 (step_none st1 (Heap.get?_none_of_le (Nat.le_refl _)))

theorem tiny_bounds {a : Int} (h : tiny a = true) : -1000000 < a ∧ a < 1000000 := by
  simpa [tiny] using h

theorem range_iter {A : Around} {ρ : List Addr} {σ : Sto} {H : H} {s : Shared} {E : Value → Shared → Prop} {Q : Value → Shared → Prop} {r : Addr} {a b : Int} {t u v : Tok} {items : List V} (hR : Rel W env ρ σ H s) (hr : IsRange s.heap r a b 1 t u v)
    (ha : tiny a = true) (hb : tiny b = true) (hit : items = countV a (b - a).toNat)
    (hP : PostI W env ρ σ s (.ok ⟨items, Option.none⟩ H) Q E) : wpAny (model W.prog W.w) A (pyIter (.ref r)) Q E s := by
  have ha' := tiny_bounds ha
  have hb' := tiny_bounds hb
  refine wpAny_pyIter_range hr (small_one (by omega) (by omega) (by omega) (by omega)) ?_
  have keep : ∀ b' o, s.heap.get? b' = some o → (s.heap.push { cls := .type "range_iterator", data := .fields #[rawInt a, rawInt (Builtin.Range.rangeSize a b 1), rawInt 1] }).get? b' = some o := fun b' o e => Heap.get?_push_of_some _ e
  have fr := hR.toRelH.fresh (Heap.get?_none_of_le (Nat.le_refl s.heap.objs.size))
  refine hP _ ρ _ (Step.grow keep) (hR.grow (tk := s.toks) keep) ⟨a, (b - a).toNat, hit, ?_⟩ trivial fr.1 fr.2 (Heap.get?_none_of_le (Nat.le_refl _))
  show (s.heap.push _).get? s.heap.objs.size = _
  rw [Heap.get?_push_size _ rfl, rangeSize_one]
  have e : (if a < b then b - a else 0) = (((b - a).toNat : Nat) : Int) := by split <;> omega
  rw [e]
  simp

theorem simIt_range {xs : List X} {es : List Expr} {p1 pos : Pos} {sc : Scope} (B : Base W n C) (hsc : ScOk env sc) (h : SimAll W n env C xs es) (h1 : isG sc "range" = true) :
    SimIt W n env C (.range xs) (.Call (.Name "range" p1) es [] pos) := by
  intro A ρ σ H s Q E hA hR hP
  show wpAny _ A (do callWith pos (← eval (.Name "range" p1) env) [] (backTo pos (starEach es env)) []) _ E s
  refine wpAny_bind (load_glob B hsc hR h1 (by decide) (.inr B.rng) ?_)
  rw [starEach_plain h, backTo_plain]
  refine callWith_type (sim_args h A ρ σ H s _ _ hA hR ?_)
  revert hP
  rw [evS]
  cases evL C xs σ H with
  | stuck => exact id
  | exc c h => exact id
  | ok vs H1 =>
    simp only [R.bind]
    cases hs : rangeV vs with
    | none => exact fun h => h.elim
    | some items =>
      rintro hP ⟨pos', kw⟩ ρ1 s1 st1 r1 ⟨hv, hkw⟩
      simp only at hv hkw
      subst hkw
      have hP' : ∀ {s2 : Shared}, Step no ρ1 s1 ρ1 s2 → PostI W env ρ1 σ s2 (.ok ⟨items, Option.none⟩ H1) Q E := fun st2 a ρ' s' st r i1 i2 i3 i4 i5 => hP a ρ' s' ((st1.trans st2).trans st) r i1 i2 i3 i4 (step_none (st1.trans st2) i5)
      unfold rangeV at hs
      split at hs
      · rename_i m
        split at hs
        · rename_i ht
          cases hs
          cases hv with
          | cons q1 q2 =>
            cases q2; cases q1
            refine call_range_1 ?_
            have keep : ∀ ob b' o, s1.heap.get? b' = some o → (s1.heap.push ob).get? b' = some o := fun ob b' o e => Heap.get?_push_of_some ob e
            exact range_iter (r1.grow (keep _)) (IsRange.new ..) (by decide) ht (by simp) (hP' (Step.grow (keep _)))
        · cases hs
      · rename_i a b
        split at hs
        · rename_i ht
          obtain ⟨t1, t2⟩ := Bool.and_eq_true_iff.mp ht
          cases hs
          cases hv with
          | cons q1 q2 =>
            cases q2 with
            | cons q2 q3 =>
              cases q3; cases q1; cases q2
              refine call_range_2 ?_
              have keep : ∀ ob b' o, s1.heap.get? b' = some o → (s1.heap.push ob).get? b' = some o := fun ob b' o e => Heap.get?_push_of_some ob e
              exact range_iter (r1.grow (keep _)) (IsRange.new ..) t1 t2 rfl (hP' (Step.grow (keep _)))
        · cases hs
      · cases hs

theorem folded_plain {e : Expr} (h : notSet e = true) : ∀ x, foldedSetIterable e env x = pure x := by
  intro x
  cases e <;> first | rfl | (exact absurd h (by simp [notSet]))

/-- a comprehension; `use` is what is done with the list while its frame stands -/
theorem comp_sound {A : Around} {ρ : List Addr} {σ : Sto} {H : H} {s : Shared} {E : Value → Shared → Prop} {Q : Value → Shared → Prop} {use : Option (Value → Sem Unit)} {v : Nat} {tgt : Str} {px pos pos' : Pos} {iter elt : Expr} {ifs : List Expr} {scope sc : Scope}
    {it : It} {xelt : X} {xifs : List X} (hA : AOk A n) (hnd : W.T.vars.Nodup) (hR : Rel W env ρ σ H s) (hsc : ScOk env sc) (ok : CompOk W.T scope sc tgt) (hv : W.T.vars[v]? = some tgt) (hset : notSet iter = true)
    (hit : SimIt W n env C it iter) (helt : ∀ L, Sim W n (cenvOf scope env L) VR (eval elt (cenvOf scope env L)) (ev C xelt)) (hifs : ∀ L, SimTAll W n (cenvOf scope env L) C xifs ifs)
    (hP : match ev C (.comp xelt v it xifs) σ H with
      | .ok w H' => ∀ acc ρ' s' L m, Step no ρ s ρ' s' → Rel W env ρ' σ H' s' → VR ρ' w acc → s.heap.get? L = none → L ∉ ρ' → W.h₀.get? L = none → s'.heap.Ns L m → (match use with
        | none => ∀ h', Heap.SameBut L s'.heap h' → Q acc { s' with heap := h' }
        | some u => wpAny (model W.prog W.w) A (u acc) (fun _ s'' => ∃ m, s''.heap.Ns L m ∧ ∀ h', Heap.SameBut L s''.heap h' → Q .none { s'' with heap := h' }) E s')
      | .exc c H' => ∀ e ρ' s', Step no ρ s ρ' s' → Rel W env ρ' σ H' s' → ExcAt W ρ' e c s'.heap → E e s'
      | .stuck => False) :
    wpAny (model W.prog W.w) A (comprehension (.ListComp elt [⟨.Name tgt px, iter, ifs, 0⟩] scope pos) scope env pos' (newList []) false (eval iter env) use) Q E s := by
  have hclos : closureFor scope env = pure (clo env scope.names []) := closureFor_clo fun x hx hk => by
    obtain ⟨c, y, h1, _⟩ := hR.env.cell x.1 (hsc.cel x.1 (ok.fre x hx hk).1)
    exact ⟨c, h1⟩
  refine wpAny_comprehension_free (cl := clo env scope.names []) rfl (folded_plain hset) hclos ok.kind ok.loc (hit A ρ σ H s _ _ hA hR ?_)
  rw [ev] at hP
  cases hS : evS C it σ H with
  | stuck => rw [hS] at hP; exact hP.elim
  | exc c h => rw [hS] at hP; exact hP
  | ok src H1 =>
    rw [hS] at hP
    simp only [R.bind] at hP
    intro a ρ1 s1 st1 R1 hIt hst haρ han has
    by_cases hsz : src.items.length ≤ big
    · rw [if_pos hsz] at hP
      cases hC : compR src (fun x h2 => testsR (evT C xifs (upd σ v x)) h2) (fun x h2 => ev C xelt (upd σ v x) h2) src.items H1 with
      | stuck => rw [hC] at hP; exact hP.elim
      | exc c h => exact absurd hC (compR_exc _ _ _ _)
      | ok vs H2 =>
        rw [hC] at hP
        simp only [alloc] at hP
        refine wpAny_newObj_type ?_ (by show (#[] : Array Value).size ≤ sizeLine; simp)
        -- the list
        have keepD : ∀ b o, s1.heap.get? b = some o → (s1.heap.push { cls := .type "list", dict := none, data := .seq ([] : List Value).toArray }).get? b = some o := fun b o e => Heap.get?_push_of_some _ e
        have RD := R1.grow (tk := s1.toks) keepD
        have frD := R1.fresh (Heap.get?_none_of_le (Nat.le_refl s1.heap.objs.size))
        have hPlD : (s1.heap.push { cls := .type "list", dict := none, data := .seq ([] : List Value).toArray }).PlainList s1.heap.objs.size #[] := ⟨_, Heap.get?_push_size _ rfl⟩
        have hDa : s1.heap.objs.size ≠ a := fun q => by
          obtain ⟨o, e, _⟩ := hIt.alive
          rw [← q, Heap.get?_none_of_le (Nat.le_refl _)] at e; cases e
        refine newEnv_comp ?_
        dsimp only
        generalize hHD : s1.heap.push { cls := .type "list", dict := none, data := .seq ([] : List Value).toArray } = HD at *
        have hsD : HD.objs.size = s1.heap.objs.size + 1 := by rw [← hHD]; exact Heap.size_push ..
        obtain ⟨RC, keepC, ownC, m0, ns0⟩ := cenv_rel (s := { s1 with heap := HD }) hnd RD hsc ok hv
        dsimp only at RC keepC ownC ns0
        have hcenv : ({ newEnv scope HD.objs.size env.globals (cellsFrom (HD.objs.size + 1) scope.names (clo env scope.names [])) env.qual none .none (some env) builtinsNs with scope := relabel scope env } : Env) = cenvOf scope env HD.objs.size := rfl
        rw [hcenv]
        generalize hHC : pushCells (HD.push { cls := .type "dict", data := .dict #[] }) scope.names = HC at *
        have keep1 : ∀ b o, s1.heap.get? b = some o → HC.get? b = some o := fun b o e => keepC b o (keepD b o e)
        have hD1 : s1.heap.get? s1.heap.objs.size = none := Heap.get?_none_of_le (Nat.le_refl _)
        have hD0 : s.heap.get? s1.heap.objs.size = none := step_none st1 hD1
        have hL0 : s.heap.get? HD.objs.size = none := step_none st1 (Heap.get?_none_of_le (by rw [hsD]; omega))
        have hkT : (cenvOf scope env HD.objs.size).kindOf tgt = some .local ∨ (cenvOf scope env HD.objs.size).kindOf tgt = some .cell := by
          rcases ok.tgt with q | q
          · exact .inl (cenv_scOk.loc tgt q)
          · rw [cenv_kind, q]; exact .inr rfl
        have hItC : ItSt ρ1 src HC a 0 := hIt.keep fun o e => ⟨o, keep1 a o e, .refl o⟩
        have hPlC : HC.PlainList s1.heap.objs.size #[] := hPlD.at fun o e => keepC _ o e
        have loop : codeAny (model W.prog W.w) A (.compLoop (.ListComp elt [⟨.Name tgt px, iter, ifs, 0⟩] scope pos) 0 (.ref a) (.ref s1.heap.objs.size) (cenvOf scope env HD.objs.size))
            (compPost (model W.prog W.w) A E use Q (.ref s1.heap.objs.size) HD.objs.size) { s1 with heap := HC } := by
          refine comp_loop (s₀ := s) (ρ := ρ) (σ := σ) (v := v) (tgt := tgt) (H2 := H2) (vs := vs) (src := src) hA hnd hv hkT (helt _) (hifs _) hsz (fun b hb => ?_) hD0 has hDa frD.2.1 han ?_ (src.items.length + 1) _
            ⟨src.items, [], [], vs, ρ1, H1, #[], rfl, rfl, rfl, by simp, hC, st1.trans (Step.grow keep1), ?_, hItC, hPlC, VRs.nil, frD.1, haρ⟩
          · have := ownC b hb
            exact step_none st1 (Heap.get?_none_of_le (by rw [hsD] at this; omega))
          · intro ρ' s' ys st' R' hPl' hys' hDρ'
            have Ns' : ∃ m, s'.heap.Ns HD.objs.size m := let ⟨m, hm, _⟩ := R'.env.ns; ⟨m, hm⟩
            -- the frame around stands as it stood
            have E' : EnvR W env ρ' σ s'.heap := hR.env.step st' (fun q => q) fun _ _ _ _ q => q
            have R2 : Rel W env ρ' σ H2 s' := ⟨R'.toRelH, E'⟩
            obtain ⟨mD, eD⟩ := id hPl'
            have nD := E'.notFields eD (.inr ⟨_, _, rfl⟩)
            have R3 := R2.adopt (o := .list vs) ⟨ys, hPl', hys'.mono⟩ hDρ' frD.2.1 nD.1 nD.2
            have st3 : Step no ρ s (ρ' ++ [s1.heap.objs.size]) s' := by
              obtain ⟨δ, rfl, nw⟩ := st'.ext
              refine ⟨⟨δ ++ [s1.heap.objs.size], by simp, fun b hb => ?_⟩, st'.keep, st'.live⟩
              rcases List.mem_append.mp hb with hb | hb
              · exact nw b hb
              · simp at hb; subst hb; exact hD0
            obtain ⟨m, hm⟩ := Ns'
            have hLD : HD.objs.size ≠ s1.heap.objs.size := by rw [hsD]; omega
            have hLρ : HD.objs.size ∉ ρ' ++ [s1.heap.objs.size] := fun q => by
              rcases List.mem_append.mp q with q | q
              · exact R'.env.loc q
              · simp at q; exact hLD q
            have fin := hP (.ref s1.heap.objs.size) _ s' HD.objs.size m st3 R3 (.ref _ _ (by rw [← R2.heap.len]; simp)) hL0 hLρ R'.env.new hm
            cases use with
            | none => exact ⟨m, hm, fin⟩
            | some u => exact fin
          · exact RC
        exact codeAny_compStart_list loop (iter_self hItC loop)
    · rw [if_neg hsz] at hP; exact hP.elim

theorem sim_comp {v : Nat} {tgt : Str} {px pos : Pos} {iter elt : Expr} {ifs : List Expr} {scope sc : Scope} {it : It} {xelt : X} {xifs : List X} (hnd : W.T.vars.Nodup) (hsc : ScOk env sc) (ok : CompOk W.T scope sc tgt) (hv : W.T.vars[v]? = some tgt)
    (hset : notSet iter = true) (hit : SimIt W n env C it iter) (helt : ∀ L, Sim W n (cenvOf scope env L) VR (eval elt (cenvOf scope env L)) (ev C xelt)) (hifs : ∀ L, SimTAll W n (cenvOf scope env L) C xifs ifs) :
    Sim W n env VR (eval (.ListComp elt [⟨.Name tgt px, iter, ifs, 0⟩] scope pos) env) (ev C (.comp xelt v it xifs)) := by
  intro A ρ σ H s Q E hA hR hP
  rw [eval_ListComp]
  refine comp_sound (use := none) hA hnd hR hsc ok hv hset hit helt hifs ?_
  cases hr : ev C (.comp xelt v it xifs) σ H with
  | stuck => rw [hr] at hP; exact hP
  | exc c h => rw [hr] at hP; exact hP
  | ok w H' =>
    rw [hr] at hP
    intro acc ρ' s' L m st r hv' hL hLρ hLn hNs h' hs'
    have hll : env.locals ≠ L := fun q => by obtain ⟨o, e⟩ := hR.env.alive; rw [q, hL] at e; cases e
    have hlc : ∀ n c, env.kindOf n = some .cell ∨ env.kindOf n = some .free → env.cells.lookup n = some c → c ≠ L := fun n c hk hc q => by
      obtain ⟨o, e⟩ := hR.env.cellAlive hk hc; rw [q, hL] at e; cases e
    exact hP acc ρ' _ (st.ext_ (tk := s'.toks) hs'.extBut hL) ⟨r.toRelH.aside (tk := s'.toks) hs'.extBut hLρ hLn, r.env.aside hs'.extBut hll hlc⟩ hv'
end
end Mine

set_option autoImplicit false
set_option linter.unusedVariables false
namespace Mine
open PySem PyProof.Rows

noncomputable def PostS (W : Wd) (env : Env) (ρ : List Addr) (s : Shared) (r : RS) (Q : Flow → Shared → Prop) (E : Value → Shared → Prop) : Prop := match r with
  | .next σ' H' => ∀ ρ' s', Step (mine env) ρ s ρ' s' → Rel W env ρ' σ' H' s' → Q .next s'
  | .ret v H' => ∀ v' ρ' s', Step (mine env) ρ s ρ' s' → RelH W ρ' H' s' → VR ρ' v v' → Q (.ret v') s'
  | .exc c σ' H' => ∀ e ρ' s', Step (mine env) ρ s ρ' s' → Rel W env ρ' σ' H' s' → ExcAt W ρ' e c s'.heap → E e s'
  | .stuck => False

noncomputable def SimS (W : Wd) (n : Nat) (env : Env) (t : Sem Flow) (f : Sto → H → RS) : Prop :=
  ∀ A ρ σ H s Q E, AOk A n → Rel W env ρ σ H s → PostS W env ρ s (f σ H) Q E → wpAny (model W.prog W.w) A t Q E s

theorem PostS.later {W : Wd} {env : Env} {ρ ρ1 : List Addr} {s s1 : Shared} {r : RS} {Q : Flow → Shared → Prop} {E : Value → Shared → Prop} (st : Step (mine env) ρ s ρ1 s1) (h : PostS W env ρ s r Q E) : PostS W env ρ1 s1 r Q E := by
  cases r with
  | stuck => exact h
  | next σ' H' => exact fun ρ' s' st' => h ρ' s' (st.trans st')
  | ret v H' => exact fun v' ρ' s' st' => h v' ρ' s' (st.trans st')
  | exc c σ' H' => exact fun e ρ' s' st' => h e ρ' s' (st.trans st')

section
variable {W : Wd} {n : Nat} {env : Env} {C : Cx}

theorem simS_nil : SimS W n env (execs [] env) (exs C []) := by
  intro A ρ σ H s Q E hA hR hP
  rw [exs] at hP
  exact wpAny_execs_nil (hP ρ s (.refl ρ s) hR)

theorem simS_cons {st : Stmt} {rest : List Stmt} {x : S} {xs : List S} (hx : SimS W n env (exec st env) (ex C x)) (hxs : SimS W n env (execs rest env) (exs C xs)) : SimS W n env (execs (st :: rest) env) (exs C (x :: xs)) := by
  intro A ρ σ H s Q E hA hR hP
  rw [exs] at hP
  refine wpAny_execs_cons (hx A ρ σ H s _ _ hA hR ?_)
  cases hr : ex C x σ H with
  | stuck => rw [hr] at hP; exact hP
  | ret v H1 => rw [hr] at hP; exact hP
  | exc c σ1 H1 => rw [hr] at hP; exact hP
  | next σ1 H1 =>
    rw [hr] at hP
    exact fun ρ1 s1 st1 r1 => hxs A ρ1 σ1 H1 s1 Q E hA r1 (PostS.later st1 hP)

theorem simS_ret {x : X} {e : Expr} {pos : Pos} (hx : Sim W n env VR (eval e env) (ev C x)) : SimS W n env (exec (.Return (some e) pos) env) (ex C (.ret x)) := by
  intro A ρ σ H s Q E hA hR hP
  rw [ex] at hP
  refine wpAny_Return_some (hx A ρ σ H s _ _ hA hR ?_)
  cases hr : ev C x σ H with
  | stuck => rw [hr] at hP; exact hP
  | exc c H1 => rw [hr] at hP; exact fun e ρ' s' st r => hP e ρ' s' st.of_no r
  | ok v H1 => rw [hr] at hP; exact fun v' ρ' s' st r hv => hP v' ρ' s' st.of_no r.toRelH hv

theorem simS_ite {x : X} {e : Expr} {a b : List S} {sa sb : List Stmt} {pos : Pos} (hx : SimT W n env C x e) (ha : SimS W n env (execs sa env) (exs C a)) (hb : SimS W n env (execs sb env) (exs C b)) :
    SimS W n env (exec (.If e sa sb pos) env) (ex C (.ite x a b)) := by
  intro A ρ σ H s Q E hA hR hP
  rw [ex] at hP
  refine wpAny_If (hx A ρ σ H s _ _ hA hR ?_)
  unfold evTr
  cases hr : ev C x σ H with
  | stuck => rw [hr] at hP; exact hP
  | exc c H1 => rw [hr] at hP; exact fun e ρ' s' st r => hP e ρ' s' st.of_no r
  | ok v H1 =>
    rw [hr] at hP
    simp only [R.bind]
    simp only at hP
    cases ht : truthV v with
    | none => rw [ht] at hP; exact hP
    | some t =>
      rw [ht] at hP
      intro c ρ1 s1 st1 r1 hc
      have hc' : t = c := hc
      subst hc'
      cases t with
      | true => exact ha A ρ1 σ H1 s1 Q E hA r1 (PostS.later st1.of_no hP)
      | false => exact hb A ρ1 σ H1 s1 Q E hA r1 (PostS.later st1.of_no hP)

theorem interactive_fun (h : env.scope.kind = .function) : interactive env = false := by
  unfold interactive; rw [h]; rfl

noncomputable def notComp : Expr → Bool
  | .ListComp .. => false
  | .SetComp .. => false
  | .DictComp .. => false
  | _ => true
theorem swaps_false {e : Expr} (h : notComp e = true) (t : Option Expr) (l : Nat) : swapsWith e t l env = pure false := by
  cases e <;> first | rfl | (exact absurd h (by simp [notComp]))

theorem simS_expr {x : X} {e : Expr} {pos : Pos} (hx : Sim W n env VR (eval e env) (ev C x)) (hc : notComp e = true) : SimS W n env (exec (.Expr e pos) env) (ex C (.expr x)) := by
  intro A ρ σ H s Q E hA hR hP
  rw [ex] at hP
  refine wpAny_Expr_any (hx A ρ σ H s _ _ hA hR ?_) (interactive_fun hR.env.kind) (swaps_false hc _ _)
  cases hr : ev C x σ H with
  | stuck => rw [hr] at hP; exact hP
  | exc c H1 => rw [hr] at hP; exact fun e ρ' s' st r => hP e ρ' s' st.of_no r
  | ok v H1 => rw [hr] at hP; exact fun v' ρ' s' st r hv => hP ρ' s' st.of_no r

theorem own_mine {nm : Str} {b : Addr} (h : (env.kindOf nm = some .local ∧ b = env.locals) ∨ (env.kindOf nm = some .cell ∧ env.cells.lookup nm = some b)) : mine env b := by
  rcases h with ⟨_, h⟩ | ⟨hk, h⟩
  · exact .inl h
  · exact .inr ⟨nm, hk, h⟩

theorem simS_assign {x : X} {e : Expr} {i : Nat} {nm : Str} {p pos : Pos} (hnd : W.T.vars.Nodup) (hx : Sim W n env VR (eval e env) (ev C x)) (hc : notComp e = true) (hi : W.T.vars[i]? = some nm) (hk : env.kindOf nm = some .local ∨ env.kindOf nm = some .cell) :
    SimS W n env (exec (.Assign [.Name nm p] e pos) env) (ex C (.assign i x)) := by
  intro A ρ σ H s Q E hA hR hP
  rw [ex] at hP
  refine wpAny_Assign_Name (hx A ρ σ H s _ _ hA hR ?_) (swaps_false hc _ _)
  cases hr : ev C x σ H with
  | stuck => rw [hr] at hP; exact hP
  | exc c H1 => rw [hr] at hP; exact fun e ρ' s' st r => hP e ρ' s' st.of_no r
  | ok v H1 =>
    rw [hr] at hP
    intro v' ρ1 s1 st1 r1 hv
    exact store_sound hnd r1 hi hk hv fun s2 r2 st2 => hP ρ1 s2 (st1.of_no.trans (st2.weaken fun b o e q => own_mine q)) r2

/-- a name bound to a comprehension's list -/
theorem simS_assignComp {v i : Nat} {tgt nm : Str} {px p pos pos' : Pos} {iter elt : Expr} {ifs : List Expr} {scope sc : Scope} {it : It} {xelt : X} {xifs : List X} (hnd : W.T.vars.Nodup) (hsc : ScOk env sc) (ok : CompOk W.T scope sc tgt) (hv : W.T.vars[v]? = some tgt)
    (hset : notSet iter = true) (hit : SimIt W n env C it iter) (helt : ∀ L, Sim W n (cenvOf scope env L) VR (eval elt (cenvOf scope env L)) (ev C xelt)) (hifs : ∀ L, SimTAll W n (cenvOf scope env L) C xifs ifs)
    (hi : W.T.vars[i]? = some nm) (hk : env.kindOf nm = some .local ∨ env.kindOf nm = some .cell) :
    SimS W n env (exec (.Assign [.Name nm p] (.ListComp elt [⟨.Name tgt px, iter, ifs, 0⟩] scope pos') pos) env) (ex C (.assign i (.comp xelt v it xifs))) := by
  intro A ρ σ H s Q E hA hR hP
  have hsw : ∃ b, swapsWith (.ListComp elt [⟨.Name tgt px, iter, ifs, 0⟩] scope pos') (some (.Name nm p)) pos.line env = pure b := ⟨_, rfl⟩
  obtain ⟨b, hsw⟩ := hsw
  cases b with
  | false =>
    rw [ex] at hP
    refine wpAny_Assign_Name (sim_comp hnd hsc ok hv hset hit helt hifs A ρ σ H s _ _ hA hR ?_) hsw
    cases hr : ev C (.comp xelt v it xifs) σ H with
    | stuck => rw [hr] at hP; exact hP
    | exc c H1 => rw [hr] at hP; exact fun e ρ' s' st r => hP e ρ' s' st.of_no r
    | ok w H1 =>
      rw [hr] at hP
      intro v' ρ1 s1 st1 r1 hv
      exact store_sound hnd r1 hi hk hv fun s2 r2 st2 => hP ρ1 s2 (st1.of_no.trans (st2.weaken fun b o e q => own_mine q)) r2
  | true =>
    rw [exec_Assign_Name_used _ _ _ _ hsw]
    refine wpAny_bind (wpAny_standAt (wpAny_bind ?_))
    show wpAny _ A (do let _ ← comprehension (.ListComp elt [⟨.Name tgt px, iter, ifs, 0⟩] scope pos') scope env _ (newList []) false (eval iter env) (some (assign (.Name nm p) env))) _ _ s
    refine wpAny_bind (wpAny_mono (comp_sound (use := some (assign (.Name nm p) env)) (Q := fun _ s' => Q .next s') hA hnd hR hsc ok hv hset hit helt hifs ?_) (fun _ s' hq => wpAny_pure (wpAny_pure hq)) fun _ _ e => e)
    rw [ex] at hP
    cases hr : ev C (.comp xelt v it xifs) σ H with
    | stuck => rw [hr] at hP; exact hP
    | exc c H1 => rw [hr] at hP; exact fun e ρ' s' st r => hP e ρ' s' st.of_no r
    | ok w H1 =>
      rw [hr] at hP
      intro acc ρ1 s1 L m st1 r1 hv' hL hLρ hLn hNs
      have hll : env.locals ≠ L := fun q => by obtain ⟨o, e⟩ := hR.env.alive; rw [q, hL] at e; cases e
      have hlc : ∀ n c, env.kindOf n = some .cell ∨ env.kindOf n = some .free → env.cells.lookup n = some c → c ≠ L := fun n c hk hc q => by
        obtain ⟨o, e⟩ := hR.env.cellAlive hk hc; rw [q, hL] at e; cases e
      refine wpAny_assign_Name (store_sound hnd r1 hi hk hv' fun s2 r2 st2 => ?_)
      have notOwn : ¬ ((env.kindOf nm = some .local ∧ L = env.locals) ∨ (env.kindOf nm = some .cell ∧ env.cells.lookup nm = some L)) := by
        rintro (⟨_, q⟩ | ⟨q1, q2⟩)
        · exact hll q.symm
        · exact hlc nm L (.inl q1) q2 rfl
      refine ⟨m, ns_kp hNs fun o e => st2.keep L o e hLρ notOwn, fun h' hs' => ?_⟩
      have st12 : Step (mine env) ρ s ρ1 s2 := st1.of_no.trans (st2.weaken fun b o e q => own_mine q)
      exact hP ρ1 _ (st12.ext_ (tk := s2.toks) hs'.extBut hL) ⟨r2.toRelH.aside (tk := s2.toks) hs'.extBut hLρ hLn, r2.env.aside hs'.extBut hll hlc⟩

theorem forR_exc {src : Src} {body : V → Sto → H → RS} : ∀ (vs : List V) (σ : Sto) (h : H) (c : Nat) (σ' : Sto) (h' : H), forR src body vs σ h ≠ .exc c σ' h'
  | [], σ, h, c, σ', h' => by simp only [forR]; split <;> simp
  | v :: vs, σ, h, c, σ', h' => by
    simp only [forR]
    split
    · split
      · exact forR_exc vs _ _ c σ' h'
      · simp
      · simp
    · simp

theorem simS_for {v : Nat} {tgt : Str} {px pos : Pos} {iter : Expr} {body : List Stmt} {it : It} {xs : List S} (hnd : W.T.vars.Nodup) (hv : W.T.vars[v]? = some tgt) (hk : env.kindOf tgt = some .local ∨ env.kindOf tgt = some .cell) (hset : notSet iter = true)
    (hit : SimIt W n env C it iter) (hb : SimS W n env (execs body env) (exs C xs)) : SimS W n env (exec (.For (.Name tgt px) iter body [] pos) env) (ex C (.for v it xs)) := by
  intro A ρ σ H s Q E hA hR hP
  rw [ex] at hP
  refine wpAny_For (hit A ρ σ H s _ _ hA hR ?_) (folded_plain hset)
  cases hS : evS C it σ H with
  | stuck => rw [hS] at hP; exact hP
  | exc c H1 => rw [hS] at hP; exact fun e ρ' s' st r => hP e ρ' s' st.of_no r
  | ok src H1 =>
    rw [hS] at hP
    intro a ρ1 s1 st1 R1 hIt hst haρ han has
    dsimp only at hP
    refine codeAny_forLoop (fun k s' => ∃ rest done ρ' σ' H', k = rest.length + 1 ∧ src.items = done ++ rest ∧ PostS W env ρ s (forR src (fun x σ1 h2 => exs C xs (upd σ1 v x) h2) rest σ' H') Q E ∧
        Step (mine env) ρ s ρ' s' ∧ Rel W env ρ' σ' H' s' ∧ ItSt ρ' src s'.heap a done.length ∧ a ∉ ρ') ?_ (src.items.length + 1)
      ⟨src.items, [], ρ1, σ, H1, rfl, rfl, hP, st1.of_no, R1, hIt, haρ⟩
    rintro k s2 ⟨rest, done, ρ2, σ2, H2, rfl, hsrc, hP2, st2, R2, hIt2, haρ2⟩
    obtain ⟨oi, hoi, hfi⟩ := hIt2.alive
    have hni := R2.env.notFields hoi (.inl hfi)
    cases rest with
    | nil =>
      simp only [forR] at hP2
      split at hP2
      · rename_i hst2
        have hl : done.length = src.items.length := by rw [hsrc]; simp
        rw [hl] at hIt2
        refine next_end hA.1 R2.toRelH hst2 hIt2 fun h' tk he => wpAny_execs_nil ?_
        exact hP2 ρ2 _ (st2.ext_ he has) ⟨R2.toRelH.aside he haρ2 han, R2.env.aside he hni.1 hni.2⟩
      · exact hP2.elim
    | cons x rest =>
      simp only [forR] at hP2
      split at hP2
      · rename_i hst2
        have hx : src.items[done.length]? = some x := by rw [hsrc]; simp
        refine next_item R2.toRelH hst2 hIt2 hx fun x' h3 tk3 hxx hIt3 hs3 => ?_
        have R3 : Rel W env ρ2 σ2 H2 { s2 with heap := h3, toks := tk3 } := ⟨R2.toRelH.aside hs3.extBut haρ2 han, R2.env.aside hs3.extBut hni.1 hni.2⟩
        have st3 : Step (mine env) ρ s ρ2 { s2 with heap := h3, toks := tk3 } := st2.ext_ hs3.extBut has
        refine wpAny_assign_Name (store_sound hnd R3 hv hk hxx fun s4 R4 st4 => ?_)
        obtain ⟨oI, eI, fI⟩ := hIt3.alive
        have ni := R3.env.notFields eI (.inl fI)
        have noI : ¬ ((env.kindOf tgt = some .local ∧ a = env.locals) ∨ (env.kindOf tgt = some .cell ∧ env.cells.lookup tgt = some a)) := by
          rintro (⟨_, q⟩ | ⟨q1, q2⟩)
          · exact ni.1 q.symm
          · exact ni.2 tgt a (.inl q1) q2 rfl
        have hIt4 := ItSt.step (s := { s2 with heap := h3, toks := tk3 }) hIt3 st4 haρ2 noI
        have st4' : Step (mine env) ρ s ρ2 s4 := st3.trans (st4.weaken fun b o e q => own_mine q)
        have alive4 : ∃ o, s4.heap.get? a = some o := let ⟨o, e, _⟩ := hIt4.alive; ⟨o, e⟩
        refine hb A ρ2 (upd σ2 v x) H2 s4 _ _ hA R4 ?_
        cases hr : exs C xs (upd σ2 v x) H2 with
        | stuck => rw [hr] at hP2; exact hP2
        | exc c σ5 H5 => rw [hr] at hP2; exact hP2.elim
        | ret w H5 => rw [hr] at hP2; exact fun w' ρ5 s5 st5 r5 hw => hP2 w' ρ5 s5 (st4'.trans st5) r5 hw
        | next σ5 H5 =>
          rw [hr] at hP2
          intro ρ5 s5 st5 R5
          have hnm : ¬ mine env a := by
            obtain ⟨o4, e4, f4⟩ := hIt4.alive
            rintro (q | ⟨m, q1, q2⟩)
            · exact (R4.env.notFields e4 (.inl f4)).1 q.symm
            · exact (R4.env.notFields e4 (.inl f4)).2 m a (.inl q1) q2 rfl
          have haρ5 : a ∉ ρ5 := let ⟨o, e⟩ := alive4; st5.fresh e haρ2
          refine ⟨rest.length + 1, by simp, rest, done ++ [x], ρ5, σ5, H5, rfl, by rw [hsrc]; simp, hP2, st4'.trans st5, R5, ?_, haρ5⟩
          have := hIt4.step st5 haρ2 hnm
          simpa using this
      · exact hP2.elim
end
end Mine

set_option autoImplicit false
set_option linter.unusedVariables false
namespace Mine
open PySem PyProof.Rows

noncomputable def isLC (sc : Scope) (n : Str) : Bool := decide (sc.names.lookup n = some .local) || decide (sc.names.lookup n = some .cell)

noncomputable def chkT (T : Tab) (sc : Scope) : List Nat → List Expr → Bool
  | [], [] => true
  | i :: is, .Name n _ :: ts => decide (T.vars[i]? = some n) && isLC sc n && chkT T sc is ts
  | _, _ => false

noncomputable def notTuple : Expr → Bool
  | .Tuple .. => false
  | _ => true

section
variable {W : Wd} {n : Nat} {env : Env} {C : Cx}

theorem assign_all {A : Around} {ρ : List Addr} {H : H} {E : Value → Shared → Prop} {sc : Scope} (hnd : W.T.vars.Nodup) (hsc : ∀ nm, isLC sc nm = true → env.kindOf nm = some .local ∨ env.kindOf nm = some .cell) :
    ∀ (is : List Nat) (ts : List Expr) (vs : List V) (xs : List Value) (σ : Sto) (s : Shared) (Q : Unit → Shared → Prop), chkT W.T sc is ts = true → VRs ρ vs xs → Rel W env ρ σ H s →
      (∀ s', Rel W env ρ (updL σ is vs) H s' → Step (mine env) ρ s ρ s' → Q () s') → wpAny (model W.prog W.w) A (assignInOrder ((assignEach ts env).map (·.2)) xs) Q E s
  | [], [], vs, xs, σ, s, Q, _, hv, hR, h => by
    rw [assignEach]
    simp only [List.map_nil, assignInOrder]
    refine wpAny_pure (h s ?_ (.refl ρ s))
    cases vs <;> exact hR
  | [], _ :: _, _, _, _, _, _, hc, _, _, _ => by simp [chkT] at hc
  | i :: is, ts, vs, xs, σ, s, Q, hc, hv, hR, h => by
    cases ts with
    | nil => simp [chkT] at hc
    | cons t ts =>
      cases t with
      | Name nm p =>
        simp only [chkT, Bool.and_eq_true, decide_eq_true_eq] at hc
        obtain ⟨⟨h1, h2⟩, h3⟩ := hc
        rw [show assignEach (.Name nm p :: ts) env = (false, assign (.Name nm p) env) :: assignEach ts env from rfl]
        cases hv with
        | nil =>
          simp only [List.map_cons, assignInOrder]
          exact wpAny_pure (h s hR (.refl ρ s))
        | @cons v x vs xs hx hxs =>
          simp only [List.map_cons, assignInOrder]
          refine wpAny_bind (wpAny_holding (wpAny_assign_Name (store_sound hnd hR h1 (hsc nm h2) hx fun s1 r1 st1 => ?_)))
          exact assign_all hnd hsc is ts vs xs (upd σ i v) s1 Q h3 hxs r1 fun s' r' st' => h s' r' ((st1.weaken fun b o e q => own_mine q).trans st')
      | _ => simp [chkT] at hc

theorem assignEach_len {T : Tab} {sc : Scope} : ∀ (is : List Nat) (ts : List Expr), chkT T sc is ts = true → (assignEach ts env).length = is.length ∧ (assignEach ts env).findIdx? (·.1) = none
  | [], [], _ => ⟨rfl, rfl⟩
  | [], _ :: _, hc => by simp [chkT] at hc
  | i :: is, ts, hc => by
    cases ts with
    | nil => simp [chkT] at hc
    | cons t ts =>
      cases t with
      | Name nm p =>
        simp only [chkT, Bool.and_eq_true] at hc
        have ih := assignEach_len is ts hc.2
        rw [show assignEach (.Name nm p :: ts) env = (false, assign (.Name nm p) env) :: assignEach ts env from rfl]
        exact ⟨by simp [ih.1], by simp [List.findIdx?_cons, ih.2]⟩
      | _ => simp [chkT] at hc

theorem simS_unpack {x : X} {e : Expr} {is : List Nat} {ts : List Expr} {k : Nat} {tp pos : Pos} {sc : Scope} (hnd : W.T.vars.Nodup) (hsc : ∀ nm, isLC sc nm = true → env.kindOf nm = some .local ∨ env.kindOf nm = some .cell)
    (hx : Sim W n env VR (eval e env) (ev C x)) (hc : notComp e = true) (ht : notTuple e = true) (hts : chkT W.T sc is ts = true) : SimS W n env (exec (.Assign [.Tuple ts k tp] e pos) env) (ex C (.unpack is x)) := by
  intro A ρ σ H s Q E hA hR hP
  rw [ex] at hP
  refine Assign_Tuple (hx A ρ σ H s _ _ hA hR ?_) ?_ ?_
  · cases hr : ev C x σ H with
    | stuck => rw [hr] at hP; exact hP
    | exc c H1 => rw [hr] at hP; exact fun e ρ' s' st r => hP e ρ' s' st.of_no r
    | ok v H1 =>
      rw [hr] at hP
      dsimp only at hP
      cases hu : tupAt H1 v with
      | none => rw [hu] at hP; exact hP.elim
      | some vs =>
        rw [hu] at hP
        dsimp only at hP
        split at hP
        · rename_i hl
          intro v' ρ1 s1 st1 r1 hv
          unfold tupAt at hu
          split at hu
          · rename_i i
            cases hv with
            | ref _ a hi =>
              split at hu
              · rename_i ws he
                cases hu
                obtain ⟨items, q, ho, r⟩ := r1.toRelH.tup hi he
                show wpAny _ A (do standAt tp; unpack (.ref a) (assignEach ts env)) _ E s1
                refine wpAny_bind (wpAny_standAt ?_)
                unfold unpack
                obtain ⟨al, af⟩ := assignEach_len (env := env) is ts hts
                have hlen := r.length
                simp only [Array.length_toList] at hlen
                rw [al, af, ← hl, hlen]
                refine wpAny_bind (wpAny_holding (wpAny_unpackItems_tuple hA.1 ⟨_, ho, rfl, q, rfl⟩ fun h' he' => ?_))
                have keep : ∀ b o, s1.heap.get? b = some o → h'.get? b = some o := fun b o e => he' b o (Nat.ne_of_lt (Heap.lt_size e)) e
                refine assign_all hnd hsc is ts vs items.toList σ _ _ hts r (r1.grow (tk := s1.toks) keep) fun s2 r2 st2 => ?_
                exact hP ρ1 s2 ((st1.of_no.trans (Step.grow keep)).trans st2) r2
              · cases hu
          · cases hu
        · exact hP.elim
  · show swapsWith e (some (.Tuple ts k tp)) pos.line env = pure false
    exact swaps_false hc _ _
  · cases e <;> first | rfl | (exact absurd ht (by simp [notTuple]))

/-! the small form and the text -/

mutual
noncomputable def chkS (T : Tab) : S → Scope → Stmt → Bool
  | .assign i x, sc, s => match s with | .Assign [.Name n _] e _ => decide (T.vars[i]? = some n) && isLC sc n && chk T x sc e | _ => false
  | .unpack is x, sc, s => match s with | .Assign [.Tuple ts _ _] e _ => chkT T sc is ts && notComp e && notTuple e && chk T x sc e | _ => false
  | .expr x, sc, s => match s with | .Expr e _ => notComp e && chk T x sc e | _ => false
  | .ite t a b, sc, s => match s with | .If e sa sb _ => chk T t sc e && chkSs T a sc sa && chkSs T b sc sb | _ => false
  | .for v it body, sc, s => match s with | .For (.Name n _) e b [] _ => decide (T.vars[v]? = some n) && isLC sc n && notSet e && chkI T it sc e && chkSs T body sc b | _ => false
  | .ret x, sc, s => match s with | .Return (some e) _ => chk T x sc e | _ => false
  | .raise c, sc, s => false
  | .dead, _, _ => true
noncomputable def chkSs (T : Tab) : List S → Scope → List Stmt → Bool
  | [], _, ss => match ss with | [] => true | _ => false
  | x :: xs, sc, ss => match ss with | s :: ss => chkS T x sc s && chkSs T xs sc ss | _ => false
end

theorem chk_shape {T : Tab} {x : X} {sc : Scope} {e : Expr} (h : chk T x sc e = true) : notStar e = true ∧ notSet e = true ∧ (∀ l u st p, e ≠ .Slice l u st p) ∧ ((∃ a b c d, x = .comp a b c d) ∨ notComp e = true) := by
  cases x <;> (unfold chk at h; first | (cases h; done) | split at h) <;> first | (exact ⟨rfl, rfl, by simp, .inr rfl⟩) | (exact ⟨rfl, rfl, by simp, .inl ⟨_, _, _, _, rfl⟩⟩) | (simp at h)

theorem compOk_of {T : Tab} {sc outer : Scope} {tgt : Str} (h : compScopeOk sc outer = true) (h1 : sc.names.all (fun x => decide ((x.2 = .local ∨ x.2 = .cell) → x.1 = tgt ∨ x.1 ∉ T.vars)) = true)
    (h2 : (decide (sc.names.lookup tgt = some .local) || decide (sc.names.lookup tgt = some .cell)) = true) : CompOk T sc outer tgt := by
  simp only [compScopeOk, Bool.and_eq_true, decide_eq_true_eq, List.all_eq_true] at h
  obtain ⟨⟨⟨⟨⟨a, b⟩, c⟩, d⟩, _⟩, _⟩ := h
  simp only [List.all_eq_true, decide_eq_true_eq] at h1
  simp only [Bool.or_eq_true, decide_eq_true_eq] at h2
  exact ⟨a, b, c, d, h1, h2⟩

noncomputable def plainX : X → Bool
  | .not _ => false
  | .bop .. => false
  | .cmp .. => false
  | .ite .. => false
  | _ => true

theorem isTrue_def {T : Tab} {x : X} {sc : Scope} {e : Expr} (h : chk T x sc e = true) (hx : plainX x = true) : isTrue e env (eval e env) = (do let v ← eval e env; standAt e.pos; holding [v] (truthy v)) := by
  cases x <;> first | (simp [plainX] at hx; done) | (unfold chk at h; split at h <;> first | rfl | (simp at h)) | (unfold chk at h; cases h)

mutual
theorem sim (B : Base W n C) : ∀ (x : X) (sc : Scope) (e : Expr) (env : Env), chk W.T x sc e = true → ScOk env sc → Sim W n env VR (eval e env) (ev C x)
  | .none, sc, e, env, h, hsc => by
    unfold chk at h; split at h
    · exact sim_none _ _
    · cases h
  | .bool b, sc, e, env, h, hsc => by
    unfold chk at h; split at h
    · simp only [beq_iff_eq] at h; subst h; exact sim_bool _ _ _
    · cases h
  | .int i, sc, e, env, h, hsc => by
    unfold chk at h; split at h
    · simp only [decide_eq_true_eq] at h; subst h; exact sim_int _ _ _
    · cases h
  | .str x, sc, e, env, h, hsc => by
    unfold chk at h; split at h
    · simp only [decide_eq_true_eq] at h; subst h; exact sim_str _ _ _
    · cases h
  | .var i, sc, e, env, h, hsc => by
    unfold chk at h; split at h
    · simp only [Bool.and_eq_true, decide_eq_true_eq] at h; exact sim_var hsc h.1.1 h.1.2 h.2
    · cases h
  | .glob i, sc, e, env, h, hsc => by
    unfold chk at h; split at h
    · simp only [Bool.and_eq_true, decide_eq_true_eq] at h; exact sim_glob B hsc h.1.1 h.1.2 h.2
    · cases h
  | .bin op a b, sc, e, env, h, hsc => by
    unfold chk at h; split at h
    · simp only [Bool.and_eq_true, decide_eq_true_eq] at h
      obtain ⟨⟨rfl, h1⟩, h2⟩ := h
      exact sim_bin (sim B a sc _ env h1 hsc) (sim B b sc _ env h2 hsc) fun A ρ σ H s Q E x y x' y' hA hR hx hy hP => bin_sound hA hR hx hy hP
    · cases h
  | .neg a, sc, e, env, h, hsc => by
    unfold chk at h; split at h
    · exact sim_neg (sim B a sc _ env h hsc)
    · cases h
  | .not a, sc, e, env, h, hsc => by
    unfold chk at h; split at h
    · exact sim_not (sim B a sc _ env h hsc)
    · cases h
  | .bop op es, sc, e, env, h, hsc => by
    unfold chk at h; split at h
    · simp only [Bool.and_eq_true, decide_eq_true_eq] at h
      obtain ⟨rfl, h1⟩ := h
      intro A ρ σ H s Q E hA hR hP
      rw [ev] at hP
      exact sim_bop (simL B es sc _ env h1 hsc) A ρ σ H s Q E hA hR hP
    · cases h
  | .ite t a b, sc, e, env, h, hsc => by
    unfold chk at h; split at h
    · simp only [Bool.and_eq_true] at h
      exact sim_ite (simT B t sc _ env h.1.1 hsc) (sim B a sc _ env h.1.2 hsc) (sim B b sc _ env h.2 hsc)
    · cases h
  | .cmp a ops bs, sc, e, env, h, hsc => by
    unfold chk at h; split at h
    · simp only [Bool.and_eq_true, decide_eq_true_eq] at h
      obtain ⟨⟨⟨rfl, hl⟩, h1⟩, h2⟩ := h
      exact sim_cmp (sim B a sc _ env h1 hsc) (simL B bs sc _ env h2 hsc) hl
    · cases h
  | .call f args, sc, e, env, h, hsc => by
    unfold chk at h; split at h
    · simp only [Bool.and_eq_true, decide_eq_true_eq] at h
      obtain ⟨⟨⟨h1, h2⟩, h3⟩, h4⟩ := h
      exact sim_call B hsc (simL B args sc _ env h4 hsc) h1 h2 h3
    · cases h
  | .bi b args, sc, e, env, h, hsc => by
    unfold chk at h; split at h
    · simp only [Bool.and_eq_true, decide_eq_true_eq] at h
      obtain ⟨⟨⟨rfl, h2⟩, h3⟩, h4⟩ := h
      exact sim_bi B hsc (simL B args sc _ env h4 hsc) h2
    · cases h
  | .isi a t, sc, e, env, h, hsc => by
    unfold chk at h; split at h
    · simp only [Bool.and_eq_true, decide_eq_true_eq] at h
      obtain ⟨⟨⟨⟨⟨⟨⟨rfl, h1⟩, h2⟩, h3⟩, h4⟩, h5⟩, h7⟩, h6⟩ := h
      cases ht : tyVal t with
      | some x => exact sim_isi B hsc (sim B a sc _ env h6 hsc) (chk_shape h6).1 h1 h3 h4 h5 ⟨x, ht⟩
      | none => cases t <;> simp [tyVal, plainTy] at ht h7
    · cases h
  | .meth m o args, sc, e, env, h, hsc => by
    unfold chk at h; split at h
    · simp only [Bool.and_eq_true, decide_eq_true_eq] at h
      obtain ⟨⟨⟨⟨⟨rfl, h1⟩, h2⟩, h3⟩, h4⟩, h5⟩ := h
      exact sim_meth (sim B o sc _ env h4 hsc) h1 h2 h3 (simL B args sc _ env h5 hsc)
    · cases h
  | .sub o i, sc, e, env, h, hsc => by
    unfold chk at h; split at h
    · simp only [Bool.and_eq_true] at h
      exact sim_sub (sim B o sc _ env h.1 hsc) (sim B i sc _ env h.2 hsc) (chk_shape h.2).2.2.1
    · cases h
  | .list es, sc, e, env, h, hsc => by
    unfold chk at h; split at h
    · exact sim_list (simL B es sc _ env h hsc)
    · cases h
  | .tup es, sc, e, env, h, hsc => by
    unfold chk at h; split at h
    · exact sim_tup (simL B es sc _ env h hsc)
    · cases h
  | .dict0, sc, e, env, h, hsc => by
    unfold chk at h; cases h
  | .comp elt v it ifs, sc, e, env, h, hsc => by
    unfold chk at h; split at h
    · simp only [Bool.and_eq_true, decide_eq_true_eq] at h
      obtain ⟨⟨⟨⟨⟨⟨⟨⟨rfl, h1⟩, h2⟩, h3⟩, h4⟩, h5⟩, h6⟩, h7⟩, h8⟩ := h
      have ok := compOk_of h3 h4 h2
      exact sim_comp B.nd hsc ok h1 h5 (simI B it sc _ env h6 hsc) (fun L => sim B elt _ _ _ h8 cenv_scOk) (fun L => simTL B ifs _ _ _ h7 cenv_scOk)
    · cases h
theorem simL (B : Base W n C) : ∀ (xs : List X) (sc : Scope) (es : List Expr) (env : Env), chkL W.T xs sc es = true → ScOk env sc → SimAll W n env C xs es
  | [], sc, es, env, h, hsc => by
    unfold chkL at h; split at h
    · exact .nil
    · cases h
  | x :: xs, sc, es, env, h, hsc => by
    unfold chkL at h; split at h
    · simp only [Bool.and_eq_true] at h
      exact .cons (sim B x sc _ env h.1 hsc) (chk_shape h.1).1 (chk_shape h.1).2.1 (simL B xs sc _ env h.2 hsc)
    · cases h
theorem simT (B : Base W n C) : ∀ (x : X) (sc : Scope) (e : Expr) (env : Env), chk W.T x sc e = true → ScOk env sc → SimT W n env C x e
  | .not a, sc, e, env, h, hsc => by
    unfold chk at h; split at h
    · exact simT_not (simT B a sc _ env h hsc)
    · cases h
  | .bop op es, sc, e, env, h, hsc => by
    unfold chk at h; split at h
    · simp only [Bool.and_eq_true, decide_eq_true_eq] at h
      obtain ⟨rfl, h1⟩ := h
      intro A ρ σ H s Q E hA hR hP
      rw [evTr, ev] at hP
      cases es with
      | nil => rw [evB] at hP; exact hP.elim
      | cons y ys => exact simT_bop (simTL B (y :: ys) sc _ env h1 hsc) A ρ σ H s Q E _ hA hR (by simp) hP
    · cases h
  | .cmp a ops bs, sc, e, env, h, hsc => by
    unfold chk at h; split at h
    · simp only [Bool.and_eq_true, decide_eq_true_eq] at h
      obtain ⟨⟨⟨rfl, hl⟩, h1⟩, h2⟩ := h
      exact simT_cmp (sim B a sc _ env h1 hsc) (simL B bs sc _ env h2 hsc) hl
    · cases h
  | .ite t a b, sc, e, env, h, hsc => by
    unfold chk at h; split at h
    · simp only [Bool.and_eq_true] at h
      exact simT_ite (simT B t sc _ env h.1.1 hsc) (simT B a sc _ env h.1.2 hsc) (simT B b sc _ env h.2 hsc)
    · cases h
  | .none, sc, e, env, h, hsc => simT_plain (sim B _ sc e env h hsc) (isTrue_def h (by rfl))
  | .bool _, sc, e, env, h, hsc => simT_plain (sim B _ sc e env h hsc) (isTrue_def h (by rfl))
  | .int _, sc, e, env, h, hsc => simT_plain (sim B _ sc e env h hsc) (isTrue_def h (by rfl))
  | .str _, sc, e, env, h, hsc => simT_plain (sim B _ sc e env h hsc) (isTrue_def h (by rfl))
  | .var _, sc, e, env, h, hsc => simT_plain (sim B _ sc e env h hsc) (isTrue_def h (by rfl))
  | .glob _, sc, e, env, h, hsc => simT_plain (sim B _ sc e env h hsc) (isTrue_def h (by rfl))
  | .bin .., sc, e, env, h, hsc => simT_plain (sim B _ sc e env h hsc) (isTrue_def h (by rfl))
  | .neg _, sc, e, env, h, hsc => simT_plain (sim B _ sc e env h hsc) (isTrue_def h (by rfl))
  | .call .., sc, e, env, h, hsc => simT_plain (sim B _ sc e env h hsc) (isTrue_def h (by rfl))
  | .bi .., sc, e, env, h, hsc => simT_plain (sim B _ sc e env h hsc) (isTrue_def h (by rfl))
  | .isi .., sc, e, env, h, hsc => simT_plain (sim B _ sc e env h hsc) (isTrue_def h (by rfl))
  | .meth .., sc, e, env, h, hsc => simT_plain (sim B _ sc e env h hsc) (isTrue_def h (by rfl))
  | .sub .., sc, e, env, h, hsc => simT_plain (sim B _ sc e env h hsc) (isTrue_def h (by rfl))
  | .list _, sc, e, env, h, hsc => simT_plain (sim B _ sc e env h hsc) (isTrue_def h (by rfl))
  | .tup _, sc, e, env, h, hsc => simT_plain (sim B _ sc e env h hsc) (isTrue_def h (by rfl))
  | .dict0, sc, e, env, h, hsc => simT_plain (sim B _ sc e env h hsc) (isTrue_def h (by rfl))
  | .comp .., sc, e, env, h, hsc => simT_plain (sim B _ sc e env h hsc) (isTrue_def h (by rfl))
theorem simTL (B : Base W n C) : ∀ (xs : List X) (sc : Scope) (es : List Expr) (env : Env), chkL W.T xs sc es = true → ScOk env sc → SimTAll W n env C xs es
  | [], sc, es, env, h, hsc => by
    unfold chkL at h; split at h
    · exact .nil
    · cases h
  | x :: xs, sc, es, env, h, hsc => by
    unfold chkL at h; split at h
    · simp only [Bool.and_eq_true] at h
      exact .cons (simT B x sc _ env h.1 hsc) (simTL B xs sc _ env h.2 hsc)
    · cases h
theorem simI (B : Base W n C) : ∀ (it : It) (sc : Scope) (e : Expr) (env : Env), chkI W.T it sc e = true → ScOk env sc → SimIt W n env C it e
  | .range args, sc, e, env, h, hsc => by
    unfold chkI at h; split at h
    · simp only [Bool.and_eq_true, decide_eq_true_eq] at h
      obtain ⟨⟨⟨rfl, h2⟩, h3⟩, h4⟩ := h
      exact simIt_range B hsc (simL B args sc _ env h4 hsc) h2
    · cases h
  | .val x, sc, e, env, h, hsc => by
    unfold chkI at h
    exact simIt_val (sim B x sc e env h hsc)
end
end
end Mine

set_option autoImplicit false
set_option linter.unusedVariables false
namespace Mine
open PySem PyProof.Rows

section
variable {W : Wd} {n : Nat} {env : Env} {C : Cx}

mutual
theorem simStm (B : Base W n C) {sc : Scope} (hsc : ScOk env sc) (hlc : ∀ nm, isLC sc nm = true → env.kindOf nm = some .local ∨ env.kindOf nm = some .cell) :
    ∀ (x : S) (st : Stmt), chkS W.T x sc st = true → SimS W n env (exec st env) (ex C x)
  | .assign i x, st, h => by
    unfold chkS at h; split at h
    · simp only [Bool.and_eq_true, decide_eq_true_eq] at h
      obtain ⟨⟨h1, h2⟩, h3⟩ := h
      rcases (chk_shape h3).2.2.2 with ⟨elt, v, it, ifs, rfl⟩ | hn
      · unfold chk at h3; split at h3
        · simp only [Bool.and_eq_true, decide_eq_true_eq] at h3
          obtain ⟨⟨⟨⟨⟨⟨⟨⟨rfl, g1⟩, g2⟩, g3⟩, g4⟩, g5⟩, g6⟩, g7⟩, g8⟩ := h3
          have ok := compOk_of g3 g4 g2
          exact simS_assignComp B.nd hsc ok g1 g5 (simI B it sc _ env g6 hsc) (fun L => sim B elt _ _ _ g8 cenv_scOk) (fun L => simTL B ifs _ _ _ g7 cenv_scOk) h1 (hlc _ h2)
        · cases h3
      · exact simS_assign B.nd (sim B x sc _ env h3 hsc) hn h1 (hlc _ h2)
    · cases h
  | .unpack is x, st, h => by
    unfold chkS at h; split at h
    · simp only [Bool.and_eq_true] at h
      obtain ⟨⟨⟨h1, h2⟩, h3⟩, h4⟩ := h
      exact simS_unpack B.nd hlc (sim B x sc _ env h4 hsc) h2 h3 h1
    · cases h
  | .expr x, st, h => by
    unfold chkS at h; split at h
    · simp only [Bool.and_eq_true] at h
      exact simS_expr (sim B x sc _ env h.2 hsc) h.1
    · cases h
  | .ite t a b, st, h => by
    unfold chkS at h; split at h
    · simp only [Bool.and_eq_true] at h
      exact simS_ite (simT B t sc _ env h.1.1 hsc) (simStms B hsc hlc a _ h.1.2) (simStms B hsc hlc b _ h.2)
    · cases h
  | .for v it body, st, h => by
    unfold chkS at h; split at h
    · simp only [Bool.and_eq_true, decide_eq_true_eq] at h
      obtain ⟨⟨⟨⟨h1, h2⟩, h3⟩, h4⟩, h5⟩ := h
      exact simS_for B.nd h1 (hlc _ h2) h3 (simI B it sc _ env h4 hsc) (simStms B hsc hlc body _ h5)
    · cases h
  | .ret x, st, h => by
    unfold chkS at h; split at h
    · exact simS_ret (sim B x sc _ env h hsc)
    · cases h
  | .raise c, st, h => by unfold chkS at h; cases h
  | .dead, st, h => by
    intro A ρ σ H s Q E hA hR hP
    rw [ex] at hP
    exact hP.elim
theorem simStms (B : Base W n C) {sc : Scope} (hsc : ScOk env sc) (hlc : ∀ nm, isLC sc nm = true → env.kindOf nm = some .local ∨ env.kindOf nm = some .cell) :
    ∀ (xs : List S) (sts : List Stmt), chkSs W.T xs sc sts = true → SimS W n env (execs sts env) (exs C xs)
  | [], sts, h => by
    unfold chkSs at h; split at h
    · exact simS_nil
    · cases h
  | x :: xs, sts, h => by
    unfold chkSs at h; split at h
    · simp only [Bool.and_eq_true] at h
      exact simS_cons (simStm B hsc hlc x _ h.1) (simStms B hsc hlc xs _ h.2)
    · cases h
end

/-! a def -/

structure Def where
  ps : List Nat
  body : List S

noncomputable def runDef (C : Cx) (d : Def) (args : List V) (H : H) : R V :=
  if args.length = d.ps.length then
    match exs C d.body (updL noSto d.ps args) H with
    | .ret v h => .ok v h
    | .next _ h => .ok .none h
    | .exc c _ h => .stuck
    | .stuck => .stuck
  else .stuck

noncomputable def chkP (T : Tab) (sc : Scope) : List Nat → List Str → Bool
  | [], [] => true
  | i :: is, n :: ns => decide (T.vars[i]? = some n) && isLC sc n && chkP T sc is ns
  | _, _ => false

theorem chkP_len {T : Tab} {sc : Scope} : ∀ {is : List Nat} {ns : List Str}, chkP T sc is ns = true → is.length = ns.length
  | [], [], _ => rfl
  | [], _ :: _, h => by simp [chkP] at h
  | _ :: _, [], h => by simp [chkP] at h
  | i :: is, n :: ns, h => by
    simp only [chkP, Bool.and_eq_true] at h
    simp [chkP_len h.2]
theorem chkP_mem {T : Tab} {sc : Scope} : ∀ {is : List Nat} {ns : List Str}, chkP T sc is ns = true → ∀ x ∈ ns, isLC sc x = true
  | [], [], _, x, hx => nomatch hx
  | [], _ :: _, h, _, _ => by simp [chkP] at h
  | _ :: _, [], h, _, _ => by simp [chkP] at h
  | i :: is, n :: ns, h, x, hx => by
    simp only [chkP, Bool.and_eq_true] at h
    rcases List.mem_cons.mp hx with rfl | hx
    · exact h.1.2
    · exact chkP_mem h.2 x hx

noncomputable def InvL (T : Tab) (ρ : List Addr) (k : Str → Option NameKind) (p : NameKind → Bool) (m : Str → Option Value) (σ : Sto) : Prop :=
  ∀ i v n kk, σ i = some v → T.vars[i]? = some n → k n = some kk → p kk = true → ∃ x, m n = some x ∧ VR ρ v x

theorem bind_rel {T : Tab} {ρ : List Addr} {sc : Scope} {k : Str → Option NameKind} (hnd : T.vars.Nodup) (hk : ∀ nm, isLC sc nm = true → k nm = some .local ∨ k nm = some .cell) :
    ∀ (is : List Nat) (ns : List Str) (args : List V) (vals : List Value) (σ : Sto) (m cm : Str → Option Value), chkP T sc is ns = true → VRs ρ args vals →
      InvL T ρ k (· == .local) m σ → InvL T ρ k (· == .cell) cm σ →
      InvL T ρ k (· == .local) (bindL k (ns.zip vals) m) (updL σ is args) ∧ InvL T ρ k (· == .cell) (bindC k (ns.zip vals) cm) (updL σ is args)
  | [], [], args, vals, σ, m, cm, _, _, h1, h2 => ⟨h1, h2⟩
  | [], _ :: _, _, _, _, _, _, h, _, _, _ => by simp [chkP] at h
  | _ :: _, [], _, _, _, _, _, h, _, _, _ => by simp [chkP] at h
  | i :: is, n :: ns, args, vals, σ, m, cm, h, hv, h1, h2 => by
    simp only [chkP, Bool.and_eq_true, decide_eq_true_eq] at h
    obtain ⟨⟨ha, hb⟩, hc⟩ := h
    cases hv with
    | nil => exact ⟨h1, h2⟩
    | @cons v x vs xs hx hxs =>
      rw [List.zip_cons_cons, bindL, bindC, updL]
      refine bind_rel hnd hk is ns vs xs _ _ _ hc hxs ?_ ?_
      · intro j w nm kk e1 e2 e3 e4
        have e4' : kk = .local := by simpa using e4
        subst e4'
        unfold upd at e1
        split at e1
        · rename_i hj
          subst hj
          rw [ha] at e2
          cases e1; cases e2
          rw [if_pos e3]
          exact ⟨x, by simp, hx⟩
        · rename_i hj
          have hne : nm ≠ n := fun q => hj (nodup_inj hnd e2 (q ▸ ha))
          obtain ⟨y, g1, g2⟩ := h1 j w nm .local e1 e2 e3 rfl
          refine ⟨y, ?_, g2⟩
          split
          · simp only [if_neg hne]; exact g1
          · exact g1
      · intro j w nm kk e1 e2 e3 e4
        have e4' : kk = .cell := by simpa using e4
        subst e4'
        unfold upd at e1
        split at e1
        · rename_i hj
          subst hj
          rw [ha] at e2
          cases e1; cases e2
          rw [if_neg (by rw [e3]; decide)]
          exact ⟨x, by simp, hx⟩
        · rename_i hj
          have hne : nm ≠ n := fun q => hj (nodup_inj hnd e2 (q ▸ ha))
          obtain ⟨y, g1, g2⟩ := h2 j w nm .cell e1 e2 e3 rfl
          refine ⟨y, ?_, g2⟩
          split
          · exact g1
          · simp only [if_neg hne]; exact g1

noncomputable def scopeOk (sc : Scope) : Bool :=
  sc.names.all (fun x => decide (x.2 ≠ .free)) && !sc.isCoroutine && !sc.isGenerator && decide (sc.kind = .function)

structure DefOk (T : Tab) (d : Def) (fd : FuncData) (names : List Str) (body : List Stmt) : Prop where
  bd : fd.body = .stmts body
  glob : fd.globals = mainGlobals
  blt : fd.builtins = builtinsNs
  clo : fd.closure = []
  sc : scopeOk fd.scope = true
  ps : chkP T fd.scope d.ps names = true
  bind : ∀ vals : List Value, vals.length = names.length → bindArgs fd ⟨vals, []⟩ = pure (names.zip vals)
  chk : chkSs T d.body fd.scope body = true

theorem lookup_mem_isSome {sc : Scope} {L : Nat} {nm : Str} (h : sc.names.lookup nm = some .cell) : ∃ c : Nat, (cellsFrom L sc.names []).lookup nm = some c := by
  have cl := cellsAt sc.names { (default : Heap) with objs := Array.replicate L default } [] (by simp)
  have e : ({ (default : Heap) with objs := Array.replicate L default } : Heap).objs.size = L := by simp
  rw [e] at cl
  obtain ⟨c, a1, _⟩ := cl.1.1 nm (mem_of_lookup h)
  exact ⟨c, a1⟩

theorem call_sound {fa : Addr} {o : Obj} {fd : FuncData} {d : Def} {names : List Str} {body : List Stmt} (B : Base W n C) (ho : W.h₀.get? fa = some o) (hd : o.data = .func fd) (hcd : W.h₀.CodeRec fd.code fd.qualname) (D : DefOk W.T d fd names body)
    (args : List V) (H : H) : CallSim W (n + 1) fa args H (runDef C d args H) := by
  intro A ρ s Q E vals hA hR hv hP
  unfold runDef at hP
  split at hP
  · rename_i hlen
    obtain ⟨hh, hdep, hun⟩ := hA
    have hsc := D.sc
    simp only [scopeOk, Bool.and_eq_true, List.all_eq_true, decide_eq_true_eq, Bool.not_eq_true'] at hsc
    obtain ⟨⟨⟨nofree, hco⟩, hgen⟩, hkind⟩ := hsc
    have vl : vals.length = names.length := by rw [← hv.length, hlen, chkP_len D.ps]
    have kof : ∀ nm, (callEnvC fd s.heap.objs.size fa).kindOf nm = fd.scope.names.lookup nm := fun _ => rfl
    have hlc : ∀ nm, isLC fd.scope nm = true → (callEnvC fd s.heap.objs.size fa).kindOf nm = some .local ∨ (callEnvC fd s.heap.objs.size fa).kindOf nm = some .cell := fun nm h => by
      simpa [isLC, kof] using h
    refine wpAny_call (codeAny_call_cells (hroom := by unfold recursionLimit; omega) (hR.keep _ _ ho) hd (B.nolim.keeps hR.keep) (hcd.keeps hR.keep) D.bd (D.bind vals vl) D.clo ?_ ?_ hco hgen hkind)
    · intro x hx
      have hm : x.1 ∈ names := (List.of_mem_zip (a := x.1) (b := x.2) hx).1
      have := chkP_mem D.ps _ hm
      simp only [isLC, Bool.or_eq_true, decide_eq_true_eq] at this
      rcases this with h | h
      · exact .inl h
      · obtain ⟨c, hc⟩ := lookup_mem_isSome (L := s.heap.objs.size + 1) h
        exact .inr ⟨h, by rw [hc]; rfl⟩
    · intro s₁ x
      have keep : ∀ b o, s.heap.get? b = some o → s₁.heap.get? b = some o := x.toInCall.keep
      have envs : (callEnvC fd s.heap.objs.size fa).locals = s.heap.objs.size := rfl
      have freshAt : ∀ c : Nat, s.heap.objs.size ≤ c → c ∉ ρ ∧ W.h₀.get? c = none := fun c hc => hR.fresh (Heap.get?_none_of_le hc)
      have above : ∀ nm (c : Nat), (callEnvC fd s.heap.objs.size fa).cells.lookup nm = some c → s.heap.objs.size < c := fun nm c e => x.above nm c (mem_of_lookup e)
      obtain ⟨bl, bc⟩ := bind_rel (ρ := ρ) (k := (callEnvC fd s.heap.objs.size fa).kindOf) B.nd hlc d.ps names args vals noSto (fun _ => none) (fun _ => none) D.ps hv (fun i v nm kk e => by simp [noSto] at e) (fun i v nm kk e => by simp [noSto] at e)
      have hs1 : RelH W ρ H s₁ := by
        obtain ⟨h1, tk, rfl⟩ := x.toInCall.same
        exact hR.grow (tk := tk) keep
      have hrel : Rel W (callEnvC fd s.heap.objs.size fa) ρ (updL noSto d.ps args) H s₁ := by
        refine ⟨hs1, ⟨hkind, D.glob, D.blt, ⟨_, x.toInCall.ns, fun i v nm e1 e2 e3 => bl i v nm .local e1 e2 e3 rfl⟩, fun nm hk => ?_, fun nm nm' c e1 e2 => ?_, ?_, ?_⟩⟩
        · rcases hk with hk | hk
          · obtain ⟨c, hc⟩ := lookup_mem_isSome (L := s.heap.objs.size + 1) (show fd.scope.names.lookup nm = some .cell from hk)
            have ab := above nm c hc
            have f := freshAt c (by omega)
            exact ⟨c, _, hc, x.cell nm c hc, f.1, f.2, fun i v e1 e2 => bc i v nm .cell e1 e2 hk rfl⟩
          · exact absurd rfl (nofree _ (mem_of_lookup hk))
        · exact name_of_addr x.apart (mem_of_lookup e1) (mem_of_lookup e2)
        · exact (freshAt _ (Nat.le_refl _)).1
        · exact (freshAt _ (Nat.le_refl _)).2
      have back : ∀ {ρ' : List Addr} {s' : Shared}, Step (mine (callEnvC fd s.heap.objs.size fa)) ρ s₁ ρ' s' → Step no ρ s ρ' s' := fun st => by
        refine ((Step.grow keep).trans st).weaken fun b o e hb => ?_
        have lt := Heap.lt_size e
        rcases hb with rfl | ⟨nm, _, e2⟩
        · exact absurd lt (by rw [envs]; exact Nat.lt_irrefl _)
        · exact absurd (above nm b e2) (Nat.not_lt_of_lt lt)
      refine simStms B ⟨fun nm h => h, fun nm h => h, fun nm h => h⟩ hlc d.body body D.chk (A.deeper (callEnvC fd s.heap.objs.size fa)) ρ (updL noSto d.ps args) H s₁ _ _ ⟨hh, ?_, ?_⟩ hrel ?_
      · show A.depth + 1 + n < 900; omega
      · show A.units + 3 + 8 * n + 200 < 9000; omega
      · cases hr : exs C d.body (updL noSto d.ps args) H with
        | stuck => rw [hr] at hP; exact hP
        | exc c σ' H' => rw [hr] at hP; exact hP.elim
        | ret v H' => rw [hr] at hP; exact fun v' ρ' s' st r hv' => hP v' ρ' s' (back st) r hv'
        | next σ' H' => rw [hr] at hP; exact fun ρ' s' st r => hP .none ρ' s' (back st) r.toRelH VR.none
  · exact hP.elim
end
end Mine

set_option autoImplicit false
set_option linter.unusedVariables false
namespace Mine
open PySem PyProof.Rows

theorem zip_lookup : ∀ (ns : List Str) (vs : List Value), ns.Nodup → vs.length = ns.length → ∀ n ∈ ns, ((ns.zip vs).lookup n).isSome = true
  | [], _, _, _, n, h => nomatch h
  | m :: ns, [], _, hl, _, _ => by simp at hl
  | m :: ns, v :: vs, hn, hl, n, h => by
    rw [List.zip_cons_cons, List.lookup_cons]
    by_cases e : n == m
    · simp [e]
    · have hne : n ≠ m := by simpa using e
      have hb : (n == m) = false := by simpa using e
      rw [hb]
      exact zip_lookup ns vs (List.nodup_cons.mp hn).2 (by simpa using hl) n (by rcases List.mem_cons.mp h with h | h; exact absurd h hne; exact h)

theorem zip_filterMap : ∀ (ns : List Str) (vs : List Value) (pre : List (Str × Value)), ns.Nodup → vs.length = ns.length → (∀ x ∈ pre, x.1 ∉ ns) → ns.filterMap (fun n => ((pre ++ ns.zip vs).lookup n).map (n, ·)) = ns.zip vs
  | [], _, _, _, _, _ => by simp
  | m :: ns, [], _, _, hl, _ => by simp at hl
  | m :: ns, v :: vs, pre, hn, hl, hp => by
    have hlk : (pre ++ (m, v) :: ns.zip vs).lookup m = some v := by
      rw [List.lookup_append]
      have : pre.lookup m = none := by
        rw [List.lookup_eq_none_iff]
        intro x hx
        have := hp x hx
        simp only [List.mem_cons, not_or] at this
        simpa [bne_iff_ne] using fun e : m = x.1 => this.1 e.symm
      rw [this]
      simp
    rw [List.zip_cons_cons, List.filterMap_cons, hlk]
    simp only [Option.map_some]
    congr 1
    have ih := zip_filterMap ns vs (pre ++ [(m, v)]) (List.nodup_cons.mp hn).2 (by simpa using hl) (fun x hx => by
      rcases List.mem_append.mp hx with hx | hx
      · have := hp x hx; simp only [List.mem_cons, not_or] at this; exact this.2
      · simp only [List.mem_singleton] at hx; subst hx; exact (List.nodup_cons.mp hn).1)
    simpa using ih

noncomputable def plainParams (p : Arguments) : Bool := p.posonlyargs.isEmpty && p.vararg.isNone && p.kwonlyargs.isEmpty && p.kwarg.isNone && decide ((p.args.map (·.arg)).Nodup)

theorem bind_plain {fd : FuncData} (hp : plainParams fd.params = true) (hd : fd.defaults = .none) (vals : List Value) (hl : vals.length = (fd.params.args.map (·.arg)).length) :
    bindArgs fd ⟨vals, []⟩ = pure ((fd.params.args.map (·.arg)).zip vals) := by
  simp only [plainParams, Bool.and_eq_true, List.isEmpty_iff, Option.isNone_iff_eq_none, decide_eq_true_eq] at hp
  obtain ⟨⟨⟨⟨h1, h2⟩, h3⟩, h4⟩, h5⟩ := hp
  have m1 : (List.filter (fun n => (((fd.params.args.map (·.arg)).zip vals).lookup n).isNone) (fd.params.args.map (·.arg))) = [] := by
    rw [List.filter_eq_nil_iff]
    intro n hn
    have := zip_lookup _ vals h5 hl n hn
    simp only [Option.isNone_iff_eq_none]
    intro e; rw [e] at this; cases this
  have m2 := zip_filterMap _ vals [] h5 hl (by simp)
  simp only [List.nil_append] at m2
  have sq : seqItems? Value.none = pure none := rfl
  unfold bindArgs
  simp only [h1, h2, h3, h4, hd, sq, List.map_nil, List.nil_append, List.forIn_nil, pure_bind, Option.getD_none, List.append_nil]
  simp only [hl, List.length_nil, List.drop_nil, Nat.sub_zero, List.take_length, m1, m2, List.drop_length, List.zip_nil_right, List.forIn_nil, Nat.lt_irrefl, gt_iff_lt, pure_bind]
  simp [m1, m2]

/-- a law's text in small form -/
structure Pack where
  T : Tab
  defs : List Def
  consts : List V

noncomputable def Fn (D : List Def) (K : List V) : Nat → Nat → List V → H → R V
  | 0, _, _, _ => .stuck
  | k + 1, i, args, H => match D[i]? with
    | some d => runDef ⟨Fn D K k, fun i => K[i]?⟩ d args H
    | none => .stuck

noncomputable def cx (D : List Def) (K : List V) (k : Nat) : Cx := ⟨Fn D K k, fun i => K[i]?⟩

noncomputable def defOk (T : Tab) (d : Def) (r : DefRec) : Bool :=
  plainParams r.params && scopeOk r.scope && chkP T r.scope d.ps (r.params.args.map (·.arg)) && chkSs T d.body r.scope r.body

noncomputable def defsOk (T : Tab) (recs : List DefRec) : List (Option Str) → List Def → Bool
  | [], [] => true
  | none :: ns, d :: ds => defsOk T recs ns ds
  | some n :: ns, d :: ds => (match recs.find? (fun r => r.name == n) with | some r => defOk T d r | none => false) && defsOk T recs ns ds
  | _, _ => false

noncomputable def constOk (p : Program) (n : Str) (v : V) : Bool := match valOf p n, v with
  | some (.int i), .int j => decide (i = j)
  | some (.str i), .str j => decide (i = j)
  | _, _ => false
noncomputable def constsOk (p : Program) : List Str → List V → Bool
  | [], _ => true
  | n :: ns, v :: vs => constOk p n v && constsOk p ns vs
  | _, _ => false

noncomputable def biNames : List Str := ["len", "all", "any", "list", "int", "max", "min", "tuple", "sorted", "set", "isinstance", "range", "bool", "str"]

noncomputable def freeOk (p : Program) (loose : List Str) : Bool := biNames.all fun x =>
  !startupNames.contains x && !loose.contains x && !((recsOf p).map (·.name)).contains x && !((litsOf p).map (·.1)).contains x && !((clssOf p loose).map (·.name)).contains x

noncomputable def packOk (p : Program) (loose : List Str) (P : Pack) : Bool :=
  decide (P.T.vars.Nodup) && defsOk P.T (recsOf p) P.T.fns P.defs && constsOk p P.T.glbs P.consts && freeOk p loose

theorem defsOk_at {T : Tab} {recs : List DefRec} : ∀ {ns : List (Option Str)} {ds : List Def}, defsOk T recs ns ds = true → ∀ {i : Nat} {n : Str}, ns[i]? = some (some n) → ∃ d r, ds[i]? = some d ∧ r ∈ recs ∧ r.name = n ∧ defOk T d r = true
  | [], [], _, i, n, e => by simp at e
  | [], _ :: _, h, _, _, _ => by simp [defsOk] at h
  | _ :: _, [], h, _, _, _ => by simp [defsOk] at h
  | none :: ns, d :: ds, h, i, n, e => by
    simp only [defsOk] at h
    cases i with
    | zero => simp at e
    | succ j => exact defsOk_at (ns := ns) (ds := ds) h (i := j) (by simpa using e)
  | some m :: ns, d :: ds, h, i, n, e => by
    simp only [defsOk, Bool.and_eq_true] at h
    cases i with
    | zero =>
      simp only [List.getElem?_cons_zero, Option.some.injEq] at e
      subst e
      obtain ⟨h1, _⟩ := h
      split at h1
      · rename_i r hr
        exact ⟨d, r, rfl, List.mem_of_find?_eq_some hr, by simpa using List.find?_some hr, h1⟩
      · cases h1
    | succ j => exact defsOk_at (ns := ns) (ds := ds) h.2 (i := j) (by simpa using e)

theorem constsOk_at {p : Program} : ∀ {ns : List Str} {vs : List V}, constsOk p ns vs = true → ∀ {i : Nat} {n : Str} {v : V}, ns[i]? = some n → vs[i]? = some v → constOk p n v = true
  | [], _, _, i, n, v, e, _ => by simp at e
  | _ :: _, [], h, _, _, _, _, _ => by simp [constsOk] at h
  | m :: ns, d :: ds, h, i, n, v, e, e' => by
    simp only [constsOk, Bool.and_eq_true] at h
    cases i with
    | zero => simp at e e'; subst e; subst e'; exact h.1
    | succ j => exact constsOk_at (ns := ns) (vs := ds) h.2 (i := j) (by simpa using e) (by simpa using e')

section
variable {p : Program} {loose : List Str} {mean : ExcName → Option Value} {mg mb : Str → Option Value} {h : Heap}

theorem free_at (T : Top p loose mean mg mb h) (hf : freeOk p loose = true) {x : Str} (hx : x ∈ biNames) : mg x = none := by
  have := List.all_eq_true.mp hf x hx
  simp only [Bool.and_eq_true, Bool.not_eq_true', List.contains_eq_mem, decide_eq_false_iff_not] at this
  exact T.free x this.1.1.1.1 this.1.1.1.2 this.1.1.2 this.1.2 this.2

theorem boot_bi (b : Bi) : bootBuiltins (biName b) = some (biVal b) := by cases b <;> decide +kernel

theorem base_all (T : Top p loose mean mg mb h) {prog : Program} {w : World} {os : OsState} {gens : Array GenState} {cls : Nat → Option Value} {P : Pack} (ok : packOk p loose P = true) :
    ∀ k, Base ⟨prog, w, h, os, gens, P.T, cls, mg, mb⟩ k (cx P.defs P.consts k) := by
  simp only [packOk, Bool.and_eq_true, decide_eq_true_eq] at ok
  obtain ⟨⟨⟨hnd, hdefs⟩, hconst⟩, hfree⟩ := ok
  have bl : ∀ {x : Str} {v : Value}, x ∈ biNames → bootBuiltins x = some v → x ≠ "__name__" → mg x = none ∧ mb x = some v := fun hx hv hn => ⟨free_at T hfree hx, (T.builtins _ hn).trans hv⟩
  have fns : ∀ (i : Nat) nm, P.T.fns[i]? = some (some nm) → ∃ d r a o pm code doc, P.defs[i]? = some d ∧ defOk P.T d r = true ∧ mg nm = some (.ref a) ∧ h.get? a = some o ∧ o.data = .func (Calls.docDef r.name r.params r.body r.scope pm code doc) ∧ h.CodeRec code r.name := fun i nm e => by
    obtain ⟨d, r, h1, h2, h3, h4⟩ := defsOk_at hdefs e
    obtain ⟨a, o, pm, code, doc, g1, g2, g3, g4⟩ := T.fn r h2
    exact ⟨d, r, a, o, pm, code, doc, h1, h4, h3 ▸ g1, g2, g3, g4⟩
  have mk : ∀ k, (∀ (i : Nat) nm, P.T.fns[i]? = some (some nm) → ∃ fa o fd, mg nm = some (.ref fa) ∧ h.get? fa = some o ∧ o.data = .func fd ∧ ∀ args H, CallSim ⟨prog, w, h, os, gens, P.T, cls, mg, mb⟩ k fa args H ((cx P.defs P.consts k).F i args H)) →
      Base ⟨prog, w, h, os, gens, P.T, cls, mg, mb⟩ k (cx P.defs P.consts k) := fun k hk =>
    { g := T.g, b := T.b, nolim := T.nolimit, nd := hnd
      gl := fun i nm v e1 e2 => by
        have := constsOk_at hconst e1 e2
        unfold constOk at this
        split at this
        · rename_i j j' hv
          simp only [decide_eq_true_eq] at this; subst this
          obtain ⟨x, hx, hr⟩ := T.const nm _ hv
          have hr' := hr h
          cases hr' with
          | int _ t => exact ⟨_, hx, VR.int _ t⟩
        · rename_i j j' hv
          simp only [decide_eq_true_eq] at this; subst this
          obtain ⟨x, hx, hr⟩ := T.const nm _ hv
          have hr' := hr h
          cases hr' with
          | str _ t => exact ⟨_, hx, VR.str _ t⟩
        · cases this
      bi := fun b => bl (by cases b <;> simp [biName, biNames]) (boot_bi b) (by cases b <;> decide)
      isi := bl (by simp [biNames]) (by decide +kernel) (by decide)
      rng := bl (by simp [biNames]) (by decide +kernel) (by decide)
      tyi := bl (by simp [biNames]) (by decide +kernel) (by decide)
      tyb := bl (by simp [biNames]) (by decide +kernel) (by decide)
      tyl := bl (by simp [biNames]) (by decide +kernel) (by decide)
      tyt := bl (by simp [biNames]) (by decide +kernel) (by decide)
      tys := bl (by simp [biNames]) (by decide +kernel) (by decide)
      fn := hk }
  intro k
  induction k with
  | zero =>
    refine mk 0 fun i nm e => ?_
    obtain ⟨d, r, a, o, pm, code, doc, h1, h2, h3, h4, h5, h6⟩ := fns i nm e
    exact ⟨a, o, _, h3, h4, h5, fun args H A ρ s Q E vals _ _ _ hP => hP.elim⟩
  | succ k ih =>
    refine mk (k + 1) fun i nm e => ?_
    obtain ⟨d, r, a, o, pm, code, doc, h1, h2, h3, h4, h5, h6⟩ := fns i nm e
    refine ⟨a, o, _, h3, h4, h5, fun args H => ?_⟩
    have e1 : (cx P.defs P.consts (k + 1)).F i args H = runDef (cx P.defs P.consts k) d args H := by
      show Fn P.defs P.consts (k + 1) i args H = _
      rw [Fn, h1]; rfl
    rw [e1]
    simp only [defOk, Bool.and_eq_true] at h2
    obtain ⟨⟨⟨p1, p2⟩, p3⟩, p4⟩ := h2
    exact call_sound ih h4 h5 h6 ⟨rfl, rfl, rfl, rfl, p2, p3, fun vals hl => bind_plain p1 rfl vals hl, p4⟩ args H
end

section
open PySem.W
variable {p : Program} {loose : List Str} {mean mean' : ExcName → Option Value} {mg mb : Str → Option Value}

theorem intsVR : ∀ {vs : List Value} {xs : List Int}, IntsAre vs xs → VRs [] (xs.map V.int) vs
  | _, _, .nil => .nil
  | _, _, .cons _ _ h => .cons (.int _ _) (intsVR h)

/-- the law's call ends as the row says -/
theorem law_ends {prog : Program} {w : World} {s₁ : Shared} (T : Top p loose mean mg mb s₁.heap) {P : Pack} (ok : packOk p loose P = true) {i : Nat} {nm : Str} {fa a : Addr} {c : ClaimW} {cl : Str → Option Addr} {args : List WData}
    {vs : List Value} {xs : List Int} {k : Nat} {H' : H} (hi : P.T.fns[i]? = some (some nm)) (hmg : mg nm = some (.ref fa)) (hk : k ≤ 100) (hl : s₁.heap.IsList a vs.toArray) (hI : IntsAre vs xs) (hg : s₁.gens = #[])
    (hrun : Fn P.defs P.consts k i [.ref 0] [.frozen (xs.map V.int)] = .ok (.bool true) H') (hn : ∀ cls, c.raises args cls = false) (hp : c.post args (.bool true) args = true) :
    wpAny (model prog w) callerA (call (.ref fa) [.ref a]) (fun v s' => GoodWG c cl mean' args s₁ (.ok (.ret v)) s') (fun e s' => GoodWG c cl mean' args s₁ (.error e) s') s₁ := by
  have B := base_all T (prog := prog) (w := w) (os := s₁.os) (gens := s₁.gens) (cls := fun _ => none) ok k
  obtain ⟨fa', o, fd, h1, h2, h3, h4⟩ := B.fn i nm hi
  have h1' : mg nm = some (.ref fa') := h1
  rw [hmg] at h1'; cases h1'
  have cs := h4 [.ref 0] [.frozen (xs.map V.int)]
  have e1 : (cx P.defs P.consts k).F i [.ref 0] [.frozen (xs.map V.int)] = .ok (.bool true) H' := hrun
  rw [e1] at cs
  refine cs callerA [a] s₁ _ _ [.ref a] ⟨rfl, ?_, ?_⟩ ?_ (.cons (.ref 0 a rfl) .nil) ?_
  · show 1 + claimMargin + k < 900
    unfold claimMargin; omega
  · show 4 + 8 * k + 200 < 9000; omega
  · refine ⟨fun b o e => e, rfl, rfl, ⟨rfl, fun j o e => ?_⟩, by simp, fun j b e => ?_⟩
    · cases j with
      | zero =>
        simp only [List.getElem?_cons_zero, Option.some.injEq] at e
        subst e
        exact ⟨a, rfl, _, hl, (intsVR hI).mono (δ := [a])⟩
      | succ j => simp at e
    · cases j with
      | zero => exact .inl ⟨_, rfl⟩
      | succ j => simp at e
  · intro v' ρ' s' st r hv
    cases hv
    exact GoodW.toG ⟨.inl ⟨_, _, [], rfl, hn, .bool true, hp, unshared_nil⟩, r.keep, r.os, r.gens.trans hg⟩
end
end Mine

set_option autoImplicit false
set_option linter.unusedVariables false
set_option linter.unusedSimpArgs false
namespace Mine
open PySem

mutual
/-- a value stands for data, all of its objects in [M, N) -/
noncomputable def Rd (M N : Nat) (h : H) : PyData → V → Prop
  | .none, v => v = .none
  | .bool b, v => v = .bool b
  | .int i, v => v = .int i
  | .str s, v => v = .str s
  | .list ds, v => ∃ a vs, v = .ref a ∧ M ≤ a ∧ a < N ∧ h[a]? = some (O.list vs) ∧ RdL M N h ds vs
  | .tuple ds, v => ∃ a vs, v = .ref a ∧ M ≤ a ∧ a < N ∧ h[a]? = some (O.tuple vs) ∧ RdL M N h ds vs
  | .dict _, _ => False
noncomputable def RdL (M N : Nat) (h : H) : List PyData → List V → Prop
  | [], vs => vs = []
  | d :: ds, vs => ∃ v vs', vs = v :: vs' ∧ Rd M N h d v ∧ RdL M N h ds vs'
end

noncomputable def Same (M N : Nat) (h h' : H) : Prop := ∀ i, M ≤ i → i < N → h'[i]? = h[i]?
theorem Same.refl (M N : Nat) (h : H) : Same M N h h := fun _ _ _ => rfl
theorem Same.trans {M N : Nat} {a b c : H} (x : Same M N a b) (y : Same M N b c) : Same M N a c := fun i h1 h2 => (y i h1 h2).trans (x i h1 h2)
theorem Same.app {M N : Nat} {h Δ : H} (hN : N ≤ h.length) : Same M N h (h ++ Δ) := fun i _ h2 => List.getElem?_append_left (by omega)
theorem Same.set {M N : Nat} {h : H} {a : Nat} {o : O} (ha : a < M ∨ N ≤ a) : Same M N h (h.set a o) := fun i h1 h2 => by rw [List.getElem?_set_ne (by omega)]
theorem Same.mono {M N M' N' : Nat} {h h' : H} (x : Same M N h h') (hM : M ≤ M') (hN : N' ≤ N) : Same M' N' h h' := fun i h1 h2 => x i (by omega) (by omega)

mutual
theorem Rd.same {M N M' N' : Nat} {h h' : H} (hs : Same M N h h') (hM : M' ≤ M) (hN : N ≤ N') : ∀ (d : PyData) (v : V), Rd M N h d v → Rd M' N' h' d v
  | .none, v, x => x
  | .bool b, v, x => x
  | .int i, v, x => x
  | .str s, v, x => x
  | .list ds, v, x => by
    obtain ⟨a, vs, rfl, h1, h2, h3, h4⟩ := x
    exact ⟨a, vs, rfl, by omega, by omega, by rw [hs a h1 h2]; exact h3, RdL.same hs hM hN ds vs h4⟩
  | .tuple ds, v, x => by
    obtain ⟨a, vs, rfl, h1, h2, h3, h4⟩ := x
    exact ⟨a, vs, rfl, by omega, by omega, by rw [hs a h1 h2]; exact h3, RdL.same hs hM hN ds vs h4⟩
  | .dict _, _, x => x.elim
theorem RdL.same {M N M' N' : Nat} {h h' : H} (hs : Same M N h h') (hM : M' ≤ M) (hN : N ≤ N') : ∀ (ds : List PyData) (vs : List V), RdL M N h ds vs → RdL M' N' h' ds vs
  | [], vs, x => x
  | d :: ds, vs, x => by
    obtain ⟨v, vs', rfl, h1, h2⟩ := x
    exact ⟨v, vs', rfl, Rd.same hs hM hN d v h1, RdL.same hs hM hN ds vs' h2⟩
end

mutual
noncomputable def dep : PyData → Nat
  | .list ds => depL ds + 1
  | .tuple ds => depL ds + 1
  | _ => 1
noncomputable def depL : List PyData → Nat
  | [] => 0
  | d :: ds => max (dep d) (depL ds)
end

mutual
theorem Rd.rd {M N : Nat} {h : H} : ∀ (d : PyData) (v : V) (n : Nat), Rd M N h d v → dep d ≤ n → rd n h v = some d
  | d, v, 0, x, hn => by cases d <;> simp [dep] at hn
  | .none, v, n + 1, x, hn => by rw [show v = .none from x]; rfl
  | .bool b, v, n + 1, x, hn => by rw [show v = .bool b from x]; rfl
  | .int i, v, n + 1, x, hn => by rw [show v = .int i from x]; rfl
  | .str s, v, n + 1, x, hn => by rw [show v = .str s from x]; rfl
  | .list ds, v, n + 1, x, hn => by
    obtain ⟨a, vs, rfl, h1, h2, h3, h4⟩ := x
    have := RdL.rd ds vs n h4 (by simp [dep] at hn; omega)
    simp [Mine.rd, h3, this]
  | .tuple ds, v, n + 1, x, hn => by
    obtain ⟨a, vs, rfl, h1, h2, h3, h4⟩ := x
    have := RdL.rd ds vs n h4 (by simp [dep] at hn; omega)
    simp [Mine.rd, h3, this]
  | .dict _, _, _ + 1, x, _ => x.elim
theorem RdL.rd {M N : Nat} {h : H} : ∀ (ds : List PyData) (vs : List V) (n : Nat), RdL M N h ds vs → depL ds ≤ n → mapO (Mine.rd n h) vs = some ds
  | [], vs, n, x, _ => by rw [show vs = [] from x]; rfl
  | d :: ds, vs, n, x, hn => by
    obtain ⟨v, vs', rfl, h1, h2⟩ := x
    simp only [depL] at hn
    rw [mapO, Rd.rd d v n h1 (by omega), RdL.rd ds vs' n h2 (by omega)]
end

theorem eqV_rd {M N M' N' : Nat} {h : H} {d e : PyData} {v w : V} (x : Rd M N h d v) (y : Rd M' N' h e w) (hd : dep d ≤ 6) (he : dep e ≤ 6) (cd : d.canLay0 = true) (ce : e.canLay0 = true) : eqV h v w = some (d.eqv e) := by
  unfold eqV
  rw [Rd.rd d v 6 x hd, Rd.rd e w 6 y he]
  simp [cd, ce]

theorem RdL.length {M N : Nat} {h : H} : ∀ {ds : List PyData} {vs : List V}, RdL M N h ds vs → vs.length = ds.length
  | [], vs, x => by rw [show vs = [] from x]; rfl
  | d :: ds, vs, x => by
    obtain ⟨v, vs', rfl, h1, h2⟩ := x
    simp [RdL.length h2]

theorem RdL.at {M N : Nat} {h : H} : ∀ {ds : List PyData} {vs : List V}, RdL M N h ds vs → ∀ {i : Nat} {d : PyData}, ds[i]? = some d → ∃ v, vs[i]? = some v ∧ Rd M N h d v
  | [], vs, x, i, d, e => by simp at e
  | d :: ds, vs, x, i, d', e => by
    obtain ⟨v, vs', rfl, h1, h2⟩ := x
    cases i with
    | zero => simp at e; subst e; exact ⟨v, by simp, h1⟩
    | succ j => simpa using RdL.at h2 (i := j) (by simpa using e)

theorem RdL.append {M N : Nat} {h : H} : ∀ {ds es : List PyData} {vs ws : List V}, RdL M N h ds vs → RdL M N h es ws → RdL M N h (ds ++ es) (vs ++ ws)
  | [], es, vs, ws, x, y => by rw [show vs = [] from x]; exact y
  | d :: ds, es, vs, ws, x, y => by
    obtain ⟨v, vs', rfl, h1, h2⟩ := x
    exact ⟨v, vs' ++ ws, rfl, h1, RdL.append h2 y⟩

theorem RdL.mem {M N : Nat} {h : H} : ∀ {ds : List PyData} {vs : List V}, RdL M N h ds vs → ∀ {v : V}, v ∈ vs → ∃ d ∈ ds, Rd M N h d v
  | [], vs, x, v, e => by rw [show vs = [] from x] at e; simp at e
  | d :: ds, vs, x, v, e => by
    obtain ⟨w, vs', rfl, h1, h2⟩ := x
    rcases List.mem_cons.mp e with rfl | e
    · exact ⟨d, by simp, h1⟩
    · obtain ⟨d', h3, h4⟩ := RdL.mem h2 e
      exact ⟨d', by simp [h3], h4⟩

theorem RdL.ints_ {M N : Nat} {h : H} : ∀ {xs : List Int} {vs : List V}, RdL M N h (xs.map .int) vs ↔ vs = xs.map .int
  | [], vs => Iff.rfl
  | x :: xs, vs => by
    constructor
    · rintro ⟨v, vs', rfl, h1, h2⟩
      rw [show v = V.int x from h1, RdL.ints_.mp h2]; rfl
    · rintro rfl
      exact ⟨_, _, rfl, rfl, RdL.ints_.mpr rfl⟩

/-! numbers, lists of them, lists of such lists -/
abbrev iL (xs : List Int) : PyData := .list (xs.map .int)
abbrev iLL (xss : List (List Int)) : PyData := .list (xss.map iL)

theorem depL_le {n : Nat} : ∀ {ds : List PyData}, (∀ d ∈ ds, dep d ≤ n) → depL ds ≤ n
  | [], _ => Nat.zero_le _
  | d :: ds, h => by
    rw [depL]
    exact Nat.max_le.mpr ⟨h d (by simp), depL_le fun e he => h e (by simp [he])⟩
theorem dep_iL (xs : List Int) : dep (iL xs) ≤ 2 := by
  rw [dep]
  exact Nat.succ_le_succ (depL_le fun d hd => by obtain ⟨x, _, rfl⟩ := List.mem_map.mp hd; exact Nat.le_refl _)
theorem dep_iLL (xs : List (List Int)) : dep (iLL xs) ≤ 3 := by
  rw [dep]
  exact Nat.succ_le_succ (depL_le fun d hd => by obtain ⟨x, _, rfl⟩ := List.mem_map.mp hd; exact dep_iL x)
theorem lay_all : ∀ {ds : List PyData}, (∀ d ∈ ds, d.canLay0 = true) → PyData.canLayAll0 ds = true
  | [], _ => by simp [PyData.canLayAll0]
  | d :: ds, h => by
    rw [PyData.canLayAll0, h d (by simp), lay_all fun e he => h e (by simp [he])]; rfl
theorem lay_iL (xs : List Int) : (iL xs).canLay0 = true := by
  rw [PyData.canLay0]
  exact lay_all fun d hd => by obtain ⟨x, _, rfl⟩ := List.mem_map.mp hd; simp [PyData.canLay0]
theorem lay_iLL (xs : List (List Int)) : (iLL xs).canLay0 = true := by
  rw [PyData.canLay0]
  exact lay_all fun d hd => by obtain ⟨x, _, rfl⟩ := List.mem_map.mp hd; exact lay_iL x

/-! statements, one after the other -/
section
variable {C : Cx} {σ σ' : Sto} {h h' : H} {v : V}
theorem exs_next {s : S} {ss : List S} (e : ex C s σ h = .next σ' h') : exs C (s :: ss) σ h = exs C ss σ' h' := by rw [exs, e]
theorem exs_ret {s : S} {ss : List S} (e : ex C s σ h = .ret v h') : exs C (s :: ss) σ h = .ret v h' := by rw [exs, e]
theorem ex_assign {i : Nat} {x : X} (e : ev C x σ h = .ok v h') : ex C (.assign i x) σ h = .next (upd σ i v) h' := by rw [ex, e]
theorem ex_expr {x : X} (e : ev C x σ h = .ok v h') : ex C (.expr x) σ h = .next σ h' := by rw [ex, e]
theorem ex_retv {x : X} (e : ev C x σ h = .ok v h') : ex C (.ret x) σ h = .ret v h' := by rw [ex, e]
theorem ex_iteF {x : X} {a b : List S} (e : ev C x σ h = .ok (.bool false) h') : ex C (.ite x a b) σ h = exs C b σ h' := by rw [ex, e]; rfl
theorem ex_iteT {x : X} {a b : List S} (e : ev C x σ h = .ok (.bool true) h') : ex C (.ite x a b) σ h = exs C a σ h' := by rw [ex, e]; rfl
theorem exs_nil : exs C [] σ h = .next σ h := by rw [exs]
theorem ex_unpack {is : List Nat} {x : X} {vs : List V} (e : ev C x σ h = .ok v h') (ht : tupAt h' v = some vs) (hl : vs.length = is.length) : ex C (.unpack is x) σ h = .next (updL σ is vs) h' := by
  rw [ex, e]; simp only [ht, hl, if_true]

theorem pre_get {h h' : H} {a : Nat} {o : O} (hp : h <+: h') (e : h[a]? = some o) : h'[a]? = some o := by
  obtain ⟨Δ, rfl⟩ := hp
  rw [List.getElem?_append_left (List.getElem?_eq_some_iff.mp e).1]; exact e
theorem pre_len {h h' : H} (hp : h <+: h') : h.length ≤ h'.length := hp.length_le
theorem Same.pre {M N : Nat} {h h' : H} (hp : h <+: h') (hN : N ≤ h.length) : Same M N h h' := by
  obtain ⟨Δ, rfl⟩ := hp
  exact Same.app hN
theorem Rd.pre {M N M' N' : Nat} {h h' : H} {d : PyData} {v : V} (x : Rd M N h d v) (hp : h <+: h') (hN : N ≤ h.length) (h1 : M' ≤ M) (h2 : N ≤ N') : Rd M' N' h' d v := Rd.same (Same.pre hp hN) h1 h2 _ _ x
theorem RdL.pre {M N M' N' : Nat} {h h' : H} {d : List PyData} {v : List V} (x : RdL M N h d v) (hp : h <+: h') (hN : N ≤ h.length) (h1 : M' ≤ M) (h2 : N ≤ N') : RdL M' N' h' d v := RdL.same (Same.pre hp hN) h1 h2 _ _ x
theorem Rd.wide {M N M' N' : Nat} {h : H} {d : PyData} {v : V} (x : Rd M N h d v) (h1 : M' ≤ M) (h2 : N ≤ N') : Rd M' N' h d v := Rd.same (Same.refl _ _ _) h1 h2 _ _ x

theorem Src.stands_pre {src : Src} (hp : h <+: h') (x : src.stands h) : src.stands h' := by
  unfold Src.stands at *
  split
  · rename_i a o e
    rw [e] at x
    exact pre_get hp x
  · trivial

/-- a comprehension whose turns only add objects -/
theorem compR_ext {α : Type} {src : Src} {tests : V → H → R Bool} {elt : V → H → R V} (M : Nat) (p : α → Bool) (g : α → PyData) : ∀ (items : List (V × α)) (h : H), src.stands h → M ≤ h.length →
    (∀ q ∈ items, ∀ h1, h <+: h1 → ∃ h2, tests q.1 h1 = .ok (p q.2) h2 ∧ h1 <+: h2) →
    (∀ q ∈ items, p q.2 = true → ∀ h1, h <+: h1 → ∃ x h2, elt q.1 h1 = .ok x h2 ∧ h1 <+: h2 ∧ Rd M h2.length h2 (g q.2) x) →
    ∃ xs h', compR src tests elt (items.map (·.1)) h = .ok xs h' ∧ h <+: h' ∧ RdL M h'.length h' (((items.map (·.2)).filter p).map g) xs
  | [], h, hs, hM, _, _ => ⟨[], h, by rw [List.map_nil, compR, if_pos hs], List.prefix_refl _, rfl⟩
  | (v, a) :: vs, h, hs, hM, ht, he => by
    obtain ⟨h1, e1, p1⟩ := ht (v, a) (by simp) h (List.prefix_refl _)
    simp only [List.map_cons]
    cases hp : p a with
    | false =>
      rw [hp] at e1
      obtain ⟨xs, h', e2, p2, r2⟩ := compR_ext M p g vs h1 (Src.stands_pre p1 hs) (Nat.le_trans hM (pre_len p1)) (fun w hw h2 q => ht w (by simp [hw]) h2 (p1.trans q)) (fun w hw hpw h2 q => he w (by simp [hw]) hpw h2 (p1.trans q))
      refine ⟨xs, h', by rw [compR, if_pos hs, e1]; simp only [e2], p1.trans p2, ?_⟩
      rw [List.filter_cons_of_neg (by simp [hp])]
      exact r2
    | true =>
      rw [hp] at e1
      obtain ⟨x, h2, e2, p2, r2⟩ := he (v, a) (by simp) hp h1 p1
      obtain ⟨xs, h', e3, p3, r3⟩ := compR_ext M p g vs h2 (Src.stands_pre (p1.trans p2) hs) (Nat.le_trans hM (pre_len (p1.trans p2))) (fun w hw h3 q => ht w (by simp [hw]) h3 ((p1.trans p2).trans q)) (fun w hw hpw h3 q => he w (by simp [hw]) hpw h3 ((p1.trans p2).trans q))
      refine ⟨x :: xs, h', by rw [compR, if_pos hs, e1]; simp only [e2, e3], (p1.trans p2).trans p3, ?_⟩
      rw [List.filter_cons_of_pos hp, List.map_cons]
      exact ⟨x, xs, rfl, r2.pre p3 (Nat.le_refl _) (Nat.le_refl _) (pre_len p3), r3⟩

theorem testsR_nil {v : V} : testsR (evT C [] σ) h = .ok true h := by rw [evT]; rfl

theorem ev_comp {elt : X} {i : Nat} {it : It} {ifs : List X} {src : Src} {xs : List V} {h1 : H} (es : evS C it σ h = .ok src h1) (hb : src.items.length ≤ big)
    (ec : compR src (fun x h2 => testsR (evT C ifs (upd σ i x)) h2) (fun x h2 => ev C elt (upd σ i x) h2) src.items h1 = .ok xs h') :
    ev C (.comp elt i it ifs) σ h = .ok (.ref h'.length) (h' ++ [.list xs]) := by
  rw [ev, es]
  simp only [R.bind, if_pos hb, ec, Mine.alloc]

/-- a comprehension over items that stand for things of a kind -/
theorem comp_over {α : Type} {elt : X} {i : Nat} {it : It} {ifs : List X} {src : Src} {h1 : H} (M : Nat) (ps : List (V × α)) (p : α → Bool) (g : α → PyData) (es : evS C it σ h = .ok src h1) (hi : src.items = ps.map (·.1)) (hb : ps.length ≤ big) (hs : src.stands h1) (hM : M ≤ h1.length)
    (ht : ∀ q ∈ ps, ∀ h2, h1 <+: h2 → ∃ h3, testsR (evT C ifs (upd σ i q.1)) h2 = .ok (p q.2) h3 ∧ h2 <+: h3)
    (he : ∀ q ∈ ps, p q.2 = true → ∀ h2, h1 <+: h2 → ∃ x h3, ev C elt (upd σ i q.1) h2 = .ok x h3 ∧ h2 <+: h3 ∧ Rd M h3.length h3 (g q.2) x) :
    ∃ v h', ev C (.comp elt i it ifs) σ h = .ok v h' ∧ h1 <+: h' ∧ Rd M h'.length h' (.list (((ps.map (·.2)).filter p).map g)) v := by
  obtain ⟨xs, h', e, p1, r⟩ := compR_ext (src := src) (tests := fun x h2 => testsR (evT C ifs (upd σ i x)) h2) (elt := fun x h2 => ev C elt (upd σ i x) h2) M p g ps h1 hs hM ht he
  have p2 : h' <+: h' ++ [O.list xs] := List.prefix_append _ _
  refine ⟨_, _, ev_comp es (by rw [hi]; simpa using hb) (by rw [hi]; exact e), p1.trans p2, ?_⟩
  have := pre_len p1
  exact ⟨_, xs, rfl, by omega, by simp, by simp, r.pre p2 (Nat.le_refl _) (Nat.le_refl _) (pre_len p2)⟩

theorem comp_all {α : Type} {elt : X} {i : Nat} {it : It} {src : Src} {h1 : H} (M : Nat) (ps : List (V × α)) (g : α → PyData) (es : evS C it σ h = .ok src h1) (hi : src.items = ps.map (·.1)) (hb : ps.length ≤ big) (hs : src.stands h1) (hM : M ≤ h1.length)
    (he : ∀ q ∈ ps, ∀ h2, h1 <+: h2 → ∃ x h3, ev C elt (upd σ i q.1) h2 = .ok x h3 ∧ h2 <+: h3 ∧ Rd M h3.length h3 (g q.2) x) :
    ∃ v h', ev C (.comp elt i it []) σ h = .ok v h' ∧ h1 <+: h' ∧ Rd M h'.length h' (.list ((ps.map (·.2)).map g)) v := by
  have := comp_over M ps (fun _ => true) g es hi hb hs hM (ifs := []) (fun q _ h2 _ => ⟨h2, by rw [testsR_nil (v := .none)], List.prefix_refl _⟩) (fun q hq _ h2 hp => he q hq h2 hp)
  rwa [List.filter_eq_self.mpr (fun _ _ => rfl)] at this

noncomputable def intPairs (xs : List Int) : List (V × Int) := xs.map fun x => (.int x, x)
theorem intPairs_1 (xs : List Int) : (intPairs xs).map (·.1) = xs.map V.int := by simp [intPairs]
theorem intPairs_2 (xs : List Int) : (intPairs xs).map (·.2) = xs := by
  unfold intPairs; rw [List.map_map]; exact List.map_id'' (fun _ => rfl) xs
theorem intPairs_mem {xs : List Int} {q : V × Int} (h : q ∈ intPairs xs) : q.2 ∈ xs ∧ q.1 = .int q.2 := by
  obtain ⟨x, hx, rfl⟩ := List.mem_map.mp h
  exact ⟨hx, rfl⟩

theorem zip_pairs {α : Type} {M N : Nat} {g : α → PyData} : ∀ {xs : List α} {vs : List V}, RdL M N h (xs.map g) vs → (vs.zip xs).map (·.1) = vs ∧ (vs.zip xs).map (·.2) = xs ∧ ∀ q ∈ vs.zip xs, q.2 ∈ xs ∧ Rd M N h (g q.2) q.1
  | [], vs, x => by rw [show vs = [] from x]; simp
  | x :: xs, vs, r => by
    obtain ⟨v, vs', rfl, h1, h2⟩ := r
    obtain ⟨e1, e2, e3⟩ := zip_pairs h2
    refine ⟨by simp [e1], by simp [e2], fun q hq => ?_⟩
    rw [List.zip_cons_cons] at hq
    rcases List.mem_cons.mp hq with rfl | hq
    · exact ⟨by simp, h1⟩
    · exact ⟨by simp [(e3 q hq).1], (e3 q hq).2⟩

/-- a for whose turns go on -/
theorem forR_inv {α : Type} {src : Src} {body : V → Sto → H → RS} (Inv : List α → Sto → H → Prop) (hst : ∀ vs σ h, Inv vs σ h → src.stands h) : ∀ (ps : List (V × α)) (σ : Sto) (h : H),
    (∀ q ∈ ps, ∀ as σ h, Inv (q.2 :: as) σ h → ∃ σ' h', body q.1 σ h = .next σ' h' ∧ Inv as σ' h') → Inv (ps.map (·.2)) σ h → ∃ σ' h', forR src body (ps.map (·.1)) σ h = .next σ' h' ∧ Inv [] σ' h'
  | [], σ, h, _, x => ⟨σ, h, by rw [List.map_nil, forR, if_pos (hst _ _ _ x)], x⟩
  | (v, a) :: vs, σ, h, hb, x => by
    obtain ⟨σ1, h1, e1, x1⟩ := hb (v, a) (by simp) _ σ h x
    obtain ⟨σ2, h2, e2, x2⟩ := forR_inv Inv hst vs σ1 h1 (fun q hq => hb q (by simp [hq])) x1
    exact ⟨σ2, h2, by rw [List.map_cons, forR, if_pos (hst _ _ _ x), e1]; exact e2, x2⟩

theorem ex_for {i : Nat} {it : It} {body : List S} {src : Src} {h1 : H} (es : evS C it σ h = .ok src h1) (ef : forR src (fun x σ1 h2 => exs C body (upd σ1 i x) h2) src.items σ h1 = .next σ' h') : ex C (.for i it body) σ h = .next σ' h' := by
  rw [ex, es]; exact ef
end

theorem countV_len (a : Int) : ∀ n, (countV a n).length = n
  | 0 => rfl
  | n + 1 => by simp [countV, countV_len (a + 1) n]
theorem countV_map : ∀ (a : Int) (n : Nat), countV a n = (List.range n).map fun j : Nat => V.int (a + (j : Int))
  | a, 0 => rfl
  | a, n + 1 => by
    rw [countV, countV_map (a + 1) n, List.range_succ_eq_map]
    simp only [List.map_cons, List.map_map]
    congr 1
    · simp
    · apply List.map_congr_left; intro j _; simp only [Function.comp, Nat.succ_eq_add_one]; congr 1; omega

theorem eqV_int (h : H) (a b : Int) : eqV h (.int a) (.int b) = some (decide (a = b)) := by
  simp [eqV, rd, PyData.canLay0, PyData.eqv]
  by_cases e : a = b <;> simp [e]

theorem allB_rd {M N : Nat} {h : H} : ∀ {bs : List Bool} {vs : List V}, RdL M N h (bs.map .bool) vs → allB vs = some (bs.all id)
  | [], vs, x => by rw [show vs = [] from x]; rfl
  | b :: bs, vs, x => by
    obtain ⟨v, vs', rfl, h1, h2⟩ := x
    rw [show v = V.bool b from h1, allB, allB_rd h2]; simp

theorem cx_F (D : List Def) (K : List V) (k i : Nat) (args : List V) (h : H) : (cx D K k).F i args h = Fn D K k i args h := rfl
theorem cx_G (D : List Def) (K : List V) (k i : Nat) : (cx D K k).G i = K[i]? := rfl
end Mine

set_option autoImplicit false
set_option linter.unusedVariables false
set_option linter.unusedSimpArgs false
set_option maxRecDepth 100000
namespace Mine
open PySem

noncomputable def vars : List Str := [(Str.ofString "thing"), (Str.ofString "least"), (Str.ofString "most"), (Str.ofString "below"), (Str.ofString "one"), (Str.ofString "k"), (Str.ofString "threading"), (Str.ofString "ties"), (Str.ofString "treadling"), (Str.ofString "tie"), (Str.ofString "loom"), (Str.ofString "shaft"), (Str.ofString "treadle"), (Str.ofString "_law_script"), (Str.ofString "_law_k"), (Str.ofString "_law_seed"), (Str.ofString "_law_mixed"), (Str.ofString "_law_cell"), (Str.ofString "_law_at"), (Str.ofString "_law_more"), (Str.ofString "_law_warps"), (Str.ofString "_law_wefts"), (Str.ofString "_law_treadles"), (Str.ofString "_law_shafts"), (Str.ofString "_law_threading"), (Str.ofString "_law_j"), (Str.ofString "_law_ties"), (Str.ofString "_law_shaft"), (Str.ofString "_law_found"), (Str.ofString "_law_loom"), (Str.ofString "_law_tie"), (Str.ofString "_law_kept"), (Str.ofString "_law_part"), (Str.ofString "_law_due"), (Str.ofString "_law_treadle"), (Str.ofString "_law_row"), (Str.ofString "_law_told"), (Str.ofString "_law_sign"), (Str.ofString "row"), (Str.ofString "cloth"), (Str.ofString "thread"), (Str.ofString "other"), (Str.ofString "some"), (Str.ofString "firsts"), (Str.ofString "found"), (Str.ofString "rows"), (Str.ofString "columns"), (Str.ofString "shafts"), (Str.ofString "treadles"), (Str.ofString "_law_few"), (Str.ofString "_law_floors"), (Str.ofString "_law_down"), (Str.ofString "_law_right"), (Str.ofString "_law_made"), (Str.ofString "_law_one"), (Str.ofString "_law_other"), (Str.ofString "_law_stair"), (Str.ofString "_law_cloth"), (Str.ofString "_law_turn"), (Str.ofString "_law_alike"), (Str.ofString "_law_pick"), (Str.ofString "_law_thread"), (Str.ofString "_law_some"), (Str.ofString "_law_unlike"), (Str.ofString "_law_treadling"), (Str.ofString "_law_firsts_here"), (Str.ofString "_law_copy"), (Str.ofString "_law_rows"), (Str.ofString "_law_two"), (Str.ofString "wefts"), (Str.ofString "warps"), (Str.ofString "weft"), (Str.ofString "warp"), (Str.ofString "_law_error"), (Str.ofString "_law_many"), (Str.ofString "_law_some_here"), (Str.ofString "_law_odd"), (Str.ofString "_law_handed"), (Str.ofString "down"), (Str.ofString "right"), (Str.ofString "_law_pair"), (Str.ofString "_law_due_here"), (Str.ofString "_law_told_here"), (Str.ofString "_law_lies"), (Str.ofString "_law_place"), (Str.ofString "size"), (Str.ofString "high"), (Str.ofString "wide"), (Str.ofString "two"), (Str.ofString "_law_most"), (Str.ofString "_law_count_here"), (Str.ofString "_law_least_here"), (Str.ofString "_law_longer"), (Str.ofString "_law_cut"), (Str.ofString "_law_thing"), (Str.ofString "_law_whole"), (Str.ofString "_law_which"), (Str.ofString "goal"), (Str.ofString "steps"), (Str.ofString "ring"), (Str.ofString "_law_goal"), (Str.ofString "_law_far_here"), (Str.ofString "_law_grown"), (Str.ofString "_law_pairs"), (Str.ofString "text"), (Str.ofString "_law_sign_here"), (Str.ofString "_law_text"), (Str.ofString "_law_line")]
noncomputable def d_is_among : Def :=  -- 0
  ⟨[0, 1, 2], [
    .ret (.bop .And [(.isi (.var 0) .int), (.not (.isi (.var 0) .bool)), (.cmp (.var 1) [.LtE, .LtE] [(.var 0), (.var 2)])])]⟩
noncomputable def d_are_numbers : Def :=  -- 1
  ⟨[0, 1, 2, 3], [
    .ite (.bop .Or [(.not (.isi (.var 0) .list)), (.not (.cmp (.var 1) [.LtE, .LtE] [(.bi .len [(.var 0)]), (.var 2)]))]) [.ret (.bool false)] [],
    .ret (.bi .all [(.comp (.call 0 [(.var 4), (.int 0), (.bin .Sub (.var 3) (.int 1))]) 4 (.val (.var 0)) [])])]⟩
noncomputable def d_is_tie : Def :=  -- 2
  ⟨[0], [
    .ite (.not (.call 1 [(.var 0), (.int 0), (.glob 0), (.glob 0)])) [.ret (.bool false)] [],
    .ret (.bi .all [(.comp (.cmp (.sub (.var 0) (.bin .Sub (.var 5) (.int 1))) [.Lt] [(.sub (.var 0) (.var 5))]) 5 (.range [(.int 1), (.bi .len [(.var 0)])]) [])])]⟩
noncomputable def d_is_loom : Def :=  -- 3
  ⟨[0], [
    .ite (.bop .Or [(.not (.isi (.var 0) .tuple)), (.cmp (.bi .len [(.var 0)]) [.NotEq] [(.int 3)])]) [.ret (.bool false)] [],
    .unpack [6, 7, 8] (.var 0),
    .ite (.bop .Or [(.not (.call 1 [(.var 6), (.int 1), (.glob 0), (.glob 0)])), (.not (.isi (.var 7) .list)), (.not (.cmp (.int 1) [.LtE, .LtE] [(.bi .len [(.var 7)]), (.glob 0)]))]) [.ret (.bool false)] [],
    .ret (.bop .And [(.bi .all [(.comp (.call 2 [(.var 9)]) 9 (.val (.var 7)) [])]), (.call 1 [(.var 8), (.int 1), (.glob 0), (.bi .len [(.var 7)])])])]⟩
noncomputable def d_need_loom : Def :=  -- 4
  ⟨[0], [
    .ite (.not (.call 3 [(.var 0)])) [.dead] [],
    .ret (.tup [(.bi .list [(.sub (.var 0) (.int 0))]), (.comp (.bi .list [(.var 9)]) 9 (.val (.sub (.var 0) (.int 1))) []), (.bi .list [(.sub (.var 0) (.int 2))])])]⟩
noncomputable def d_woven : Def :=  -- 5
  ⟨[10], [
    .unpack [6, 7, 8] (.call 4 [(.var 10)]),
    .ret (.comp (.comp (.bi .int [(.cmp (.var 11) [.In] [(.sub (.var 7) (.var 12))])]) 11 (.val (.var 6)) []) 12 (.val (.var 8)) [])]⟩
noncomputable def d_cell_at_l : Def :=  -- 6
  ⟨[13, 14], [
    .ite (.cmp (.var 14) [.Lt] [(.bi .len [(.var 13)])]) [.ret (.sub (.var 13) (.var 14))] [],
    .ret (.int 0)]⟩
noncomputable def d_drawn_l : Def :=  -- 7
  ⟨[15, 14], [
    .assign 16 (.bin .Mod (.bin .Mult (.bin .Add (.bin .Add (.var 15) (.bin .Mult (.int 101) (.var 14))) (.int 7)) (.int 48271)) (.int 2147483647)),
    .ret (.bin .FloorDiv (.bin .Mod (.bin .Mult (.bin .Add (.bin .FloorDiv (.var 16) (.int 7)) (.var 14)) (.int 16807)) (.int 2147483647)) (.int 64))]⟩
noncomputable def d_size_l : Def :=  -- 8
  ⟨[17], [
    .ite (.cmp (.bin .Mod (.bin .FloorDiv (.var 17) (.int 5)) (.int 9)) [.Eq] [(.int 1)]) [.ret (.bin .Add (.int 6) (.bin .Mod (.bin .FloorDiv (.var 17) (.int 45)) (.int 7)))] [],
    .ret (.bin .Add (.int 1) (.bin .Mod (.var 17) (.int 5)))]⟩
noncomputable def d_loom_by_l : Def :=  -- 9
  ⟨[13, 18], [
    .assign 15 (.call 6 [(.var 13), (.bin .Add (.var 18) (.int 1))]),
    .assign 19 (.call 6 [(.var 13), (.bin .Add (.var 18) (.int 2))]),
    .assign 20 (.call 8 [(.call 6 [(.var 13), (.var 18)])]),
    .assign 21 (.call 8 [(.bin .FloorDiv (.call 6 [(.var 13), (.var 18)]) (.int 320))]),
    .assign 22 (.call 8 [(.var 19)]),
    .assign 23 (.sub (.list [(.int 3), (.int 5), (.int 12)]) (.bin .Mod (.bin .FloorDiv (.var 19) (.int 320)) (.int 3))),
    .assign 24 (.comp (.bin .Mod (.call 7 [(.var 15), (.var 25)]) (.var 23)) 25 (.range [(.var 20)]) []),
    .assign 26 (.list []),
    .for 14 (.range [(.var 22)]) [.expr (.meth .append (.var 26) [(.comp (.var 27) 27 (.range [(.var 23)]) [(.cmp (.bin .Mod (.call 7 [(.bin .Add (.var 15) (.int 2)), (.bin .Add (.bin .Mult (.int 20) (.var 14)) (.var 27))]) (.int 5)) [.Lt] [(.int 2)])])])],
    .ret (.tup [(.var 24), (.var 26), (.comp (.bin .Mod (.call 7 [(.bin .Add (.var 15) (.int 3)), (.var 14)]) (.var 22)) 14 (.range [(.var 21)]) [])])]⟩
noncomputable def d_is_int_l : Def :=  -- 10
  ⟨[28], [
    .ret (.bop .And [(.isi (.var 28) .int), (.not (.isi (.var 28) .bool))])]⟩
noncomputable def d_copy_l : Def :=  -- 11
  ⟨[29], [
    .ret (.tup [(.bi .list [(.sub (.var 29) (.int 0))]), (.comp (.bi .list [(.var 30)]) 30 (.val (.sub (.var 29) (.int 1))) []), (.bi .list [(.sub (.var 29) (.int 2))])])]⟩
noncomputable def d_law : Def :=  -- 12
  ⟨[13], [
    .assign 29 (.call 9 [(.var 13), (.int 0)]),
    .assign 31 (.call 11 [(.var 29)]),
    .assign 28 (.call 4 [(.var 29)]),
    .ite (.bop .Or [(.not (.isi (.var 28) .tuple)), (.cmp (.var 28) [.NotEq] [(.var 31)]), (.cmp (.var 29) [.NotEq] [(.var 31)])]) [.ret (.bool false)] [],
    .for 32 (.val (.var 28)) [.ite (.not (.isi (.var 32) .list)) [.ret (.bool false)] []],
    .expr (.meth .append (.sub (.var 28) (.int 0)) [(.int 0)]),
    .expr (.meth .append (.sub (.sub (.var 28) (.int 1)) (.int 0)) [(.int 11)]),
    .expr (.meth .append (.sub (.var 28) (.int 1)) [(.list [])]),
    .expr (.meth .append (.sub (.var 28) (.int 2)) [(.int 0)]),
    .ite (.bop .Or [(.cmp (.var 29) [.NotEq] [(.var 31)]), (.cmp (.call 4 [(.var 29)]) [.NotEq] [(.var 31)])]) [.ret (.bool false)] [],
    .assign 33 (.list []),
    .for 34 (.val (.sub (.var 29) (.int 2))) [.assign 35 (.list []), .for 27 (.val (.sub (.var 29) (.int 0))) [.expr (.meth .append (.var 35) [(.ite (.cmp (.var 27) [.In] [(.sub (.sub (.var 29) (.int 1)) (.var 34))]) (.int 1) (.int 0))])], .expr (.meth .append (.var 33) [(.var 35)])],
    .assign 36 (.call 5 [(.var 29)]),
    .ite (.bop .Or [(.not (.isi (.var 36) .list)), (.cmp (.var 36) [.NotEq] [(.var 33)]), (.cmp (.var 29) [.NotEq] [(.var 31)])]) [.ret (.bool false)] [],
    .for 35 (.val (.var 36)) [.ite (.bop .Or [(.not (.isi (.var 35) .list)), (.cmp (.bi .len [(.comp (.var 37) 37 (.val (.var 35)) [(.not (.call 10 [(.var 37)]))])]) [.Gt] [(.int 0)])]) [.ret (.bool false)] [], .expr (.meth .append (.var 35) [(.int 1)])],
    .expr (.meth .clear (.var 36) []),
    .ret (.bop .And [(.cmp (.call 5 [(.var 29)]) [.Eq] [(.var 33)]), (.cmp (.var 29) [.Eq] [(.var 31)])])]⟩
noncomputable def defs : List Def := [d_is_among, d_are_numbers, d_is_tie, d_is_loom, d_need_loom, d_woven, d_cell_at_l, d_drawn_l, d_size_l, d_loom_by_l, d_is_int_l, d_copy_l, d_law, ⟨[], []⟩, ⟨[], []⟩, ⟨[], []⟩, ⟨[], []⟩, ⟨[], []⟩, ⟨[], []⟩, ⟨[], []⟩, ⟨[], []⟩, ⟨[], []⟩, ⟨[], []⟩, ⟨[], []⟩, ⟨[], []⟩, ⟨[], []⟩, ⟨[], []⟩, ⟨[], []⟩, ⟨[], []⟩, ⟨[], []⟩, ⟨[], []⟩, ⟨[], []⟩, ⟨[], []⟩, ⟨[], []⟩, ⟨[], []⟩, ⟨[], []⟩, ⟨[], []⟩, ⟨[], []⟩, ⟨[], []⟩, ⟨[], []⟩, ⟨[], []⟩, ⟨[], []⟩, ⟨[], []⟩, ⟨[], []⟩, ⟨[], []⟩, ⟨[], []⟩, ⟨[], []⟩, ⟨[], []⟩, ⟨[], []⟩, ⟨[], []⟩, ⟨[], []⟩, ⟨[], []⟩, ⟨[], []⟩, ⟨[], []⟩, ⟨[], []⟩, ⟨[], []⟩, ⟨[], []⟩, ⟨[], []⟩, ⟨[], []⟩, ⟨[], []⟩, ⟨[], []⟩, ⟨[], []⟩, ⟨[], []⟩, ⟨[], []⟩, ⟨[], []⟩, ⟨[], []⟩, ⟨[], []⟩, ⟨[], []⟩, ⟨[], []⟩, ⟨[], []⟩, ⟨[], []⟩, ⟨[], []⟩, ⟨[], []⟩, ⟨[], []⟩, ⟨[], []⟩, ⟨[], []⟩, ⟨[], []⟩, ⟨[], []⟩, ⟨[], []⟩, ⟨[], []⟩, ⟨[], []⟩, ⟨[], []⟩, ⟨[], []⟩, ⟨[], []⟩, ⟨[], []⟩, ⟨[], []⟩, ⟨[], []⟩, ⟨[], []⟩, ⟨[], []⟩, ⟨[], []⟩, ⟨[], []⟩, ⟨[], []⟩, ⟨[], []⟩, ⟨[], []⟩, ⟨[], []⟩, ⟨[], []⟩, ⟨[], []⟩, ⟨[], []⟩, ⟨[], []⟩, ⟨[], []⟩, ⟨[], []⟩]
noncomputable def consts : List V := [.int 12]


noncomputable def cell (xs : List Int) (k : Int) : Int := (xs[k.toNat]?).getD 0
noncomputable def drawn (s k : Int) : Int := ((s + 101 * k + 7) * 48271 % 2147483647 / 7 + k) * 16807 % 2147483647 / 64
noncomputable def size (c : Int) : Int := if c / 5 % 9 = 1 then 6 + c / 45 % 7 else 1 + c % 5

theorem f_cell (n : Nat) {h : H} {xs : List Int} (hx : xs.length ≤ 63) (h0 : h[0]? = some (O.frozen (xs.map V.int))) {k : Int} (hk : 0 ≤ k) :
    Fn defs consts (n + 1) 6 [.ref 0, .int k] h = .ok (.int (cell xs k)) h := by
  show runDef (cx defs consts n) d_cell_at_l _ h = _
  have hb : xs.length ≤ big := by unfold big; omega
  by_cases hlt : k < xs.length
  · have hk' : k.toNat < xs.length := by omega
    simp [runDef, d_cell_at_l, exs, ex, ev, evL, evC, R.bind, R.ofOpt, updL, upd, biV, seqAt, h0, hb, cmpV, hlt, truthV, itemV, idx, hk, cell, hk']
  · have hk' : xs.length ≤ k.toNat := by omega
    simp [runDef, d_cell_at_l, exs, ex, ev, evL, evC, R.bind, R.ofOpt, updL, upd, biV, seqAt, h0, hb, cmpV, hlt, truthV, itemV, idx, hk, cell, List.getElem?_eq_none hk']

theorem f_drawn (n : Nat) {h : H} (s k : Int) : Fn defs consts (n + 1) 7 [.int s, .int k] h = .ok (.int (drawn s k)) h := by
  show runDef (cx defs consts n) d_drawn_l _ h = _
  simp [runDef, d_drawn_l, exs, ex, ev, evL, evC, R.bind, R.ofOpt, updL, upd, binV, intOp, small, drawn]

theorem f_size (n : Nat) {h : H} (c : Int) : Fn defs consts (n + 1) 8 [.int c] h = .ok (.int (size c)) h := by
  show runDef (cx defs consts n) d_size_l _ h = _
  by_cases hc : c / 5 % 9 = 1
  · simp [runDef, d_size_l, exs, ex, ev, evL, evC, R.bind, R.ofOpt, updL, upd, binV, intOp, cmpV, eqV_int, small, size, hc, truthV]
  · simp [runDef, d_size_l, exs, ex, ev, evL, evC, R.bind, R.ofOpt, updL, upd, binV, intOp, cmpV, eqV_int, small, size, hc, truthV]

theorem f_isint (n : Nat) {h : H} (c : Int) : Fn defs consts (n + 1) 10 [.int c] h = .ok (.bool true) h := by
  show runDef (cx defs consts n) d_is_int_l _ h = _
  simp [runDef, d_is_int_l, exs, ex, ev, evL, evB, evC, R.bind, R.ofOpt, updL, upd, kindV, isiK, tyNo, kdNo, truthV]

theorem f_among (n : Nat) {h : H} (i lo hi : Int) : Fn defs consts (n + 1) 0 [.int i, .int lo, .int hi] h = .ok (.bool (decide (lo ≤ i ∧ i ≤ hi))) h := by
  show runDef (cx defs consts n) d_is_among _ h = _
  by_cases h1 : lo ≤ i <;> by_cases h2 : i ≤ hi <;>
  simp [runDef, d_is_among, exs, ex, ev, evL, evB, evC, R.bind, R.ofOpt, updL, upd, kindV, isiK, tyNo, kdNo, truthV, cmpV, h1, h2]

theorem size_bounds (c : Int) : 1 ≤ size c ∧ size c ≤ 12 := by unfold size; split <;> omega
theorem drawn_nonneg (s k : Int) : 0 ≤ drawn s k := by unfold drawn; omega

noncomputable def upto (n : Int) : List Int := (List.range n.toNat).map fun j : Nat => (j : Int)
noncomputable def fromTo (a b : Int) : List Int := (List.range (b - a).toNat).map fun j : Nat => a + (j : Int)
theorem upto_mem {n x : Int} : x ∈ upto n ↔ 0 ≤ x ∧ x < n := by
  unfold upto
  simp only [List.mem_map, List.mem_range]
  constructor
  · rintro ⟨j, hj, rfl⟩; omega
  · rintro ⟨h1, h2⟩; exact ⟨x.toNat, by omega, by omega⟩
theorem fromTo_mem {a b x : Int} : x ∈ fromTo a b ↔ a ≤ x ∧ x < b := by
  unfold fromTo
  simp only [List.mem_map, List.mem_range]
  constructor
  · rintro ⟨j, hj, rfl⟩; omega
  · rintro ⟨h1, h2⟩; exact ⟨(x - a).toNat, by omega, by omega⟩
theorem upto_len (n : Int) : (upto n).length = n.toNat := by simp [upto]
theorem fromTo_len (a b : Int) : (fromTo a b).length = (b - a).toNat := by simp [fromTo]

theorem range1 {n : Int} (h1 : -1000000 < n) (h2 : n < 1000000) : rangeV [.int n] = some ((upto n).map V.int) := by
  simp only [rangeV, tiny, h1, h2, decide_true, Bool.and_self, if_true, countV_map, upto, List.map_map, Option.some.injEq]
  apply List.map_congr_left; intro j _; simp
theorem range2 {a b : Int} (h1 : -1000000 < a) (h2 : a < 1000000) (h3 : -1000000 < b) (h4 : b < 1000000) : rangeV [.int a, .int b] = some ((fromTo a b).map V.int) := by
  simp only [rangeV, tiny, h1, h2, h3, h4, decide_true, Bool.and_self, if_true, countV_map, fromTo, List.map_map, Option.some.injEq]
  apply List.map_congr_left; intro j _; simp

section
variable {C : Cx} {σ : Sto} {h h1 : H}
theorem evS_range1 {x : X} {n : Int} (e : ev C x σ h = .ok (.int n) h1) (g1 : -1000000 < n) (g2 : n < 1000000) : evS C (.range [x]) σ h = .ok ⟨(upto n).map V.int, none⟩ h1 := by
  simp only [evS, evL, e, R.bind, range1 g1 g2]
theorem evS_range2 {x y : X} {a b : Int} {h2 : H} (e : ev C x σ h = .ok (.int a) h1) (e' : ev C y σ h1 = .ok (.int b) h2) (g1 : -1000000 < a) (g2 : a < 1000000) (g3 : -1000000 < b) (g4 : b < 1000000) : evS C (.range [x, y]) σ h = .ok ⟨(fromTo a b).map V.int, none⟩ h2 := by
  simp only [evS, evL, e, R.bind, e', range2 g1 g2 g3 g4]
theorem evS_list {x : X} {a : Nat} {vs : List V} (e : ev C x σ h = .ok (.ref a) h1) (ha : h1[a]? = some (O.list vs)) : evS C (.val x) σ h = .ok ⟨vs, some (a, .list vs)⟩ h1 := by
  rw [evS, e]; simp [R.bind, srcV, ha, R.ofOpt]
theorem evS_tuple {x : X} {a : Nat} {vs : List V} (e : ev C x σ h = .ok (.ref a) h1) (ha : h1[a]? = some (O.tuple vs)) : evS C (.val x) σ h = .ok ⟨vs, some (a, .tuple vs)⟩ h1 := by
  rw [evS, e]; simp [R.bind, srcV, ha, R.ofOpt]

theorem ev_all {x : X} {v : V} {M N : Nat} {bs : List Bool} (e : ev C x σ h = .ok v h1) (r : Rd M N h1 (.list (bs.map .bool)) v) : ev C (.bi .all [x]) σ h = .ok (.bool (bs.all id)) h1 := by
  obtain ⟨a, vs, rfl, _, _, ha, hr⟩ := r
  simp [ev, evL, e, R.bind, biV, listAt, ha, allB_rd hr]

/-- a copy of a list of numbers -/
theorem ev_copy {x : X} {v : V} {M N : Nat} {xs : List Int} (e : ev C x σ h = .ok v h1) (r : Rd M N h1 (iL xs) v) (hb : xs.length ≤ big) :
    ∃ w h', ev C (.bi .list [x]) σ h = .ok w h' ∧ h1 <+: h' ∧ Rd h1.length h'.length h' (iL xs) w := by
  obtain ⟨a, vs, rfl, _, _, ha, hr⟩ := r
  obtain rfl := RdL.ints_.mp hr
  refine ⟨.ref h1.length, h1 ++ [O.list (xs.map V.int)], ?_, List.prefix_append _ _, _, _, rfl, Nat.le_refl _, by simp, by simp, RdL.ints_.mpr rfl⟩
  simp [ev, evL, e, R.bind, biV, listAt, ha, hb, Mine.alloc]

theorem const0 : consts[0]? = some (V.int 12) := rfl
/-- three values put into a tuple -/
theorem ev_tup3 {x y z : X} {u v w : V} {h2 h3 : H} {M : Nat} {a b c : PyData} (e1 : ev C x σ h = .ok u h1) (e2 : ev C y σ h1 = .ok v h2) (e3 : ev C z σ h2 = .ok w h3) (p1 : h <+: h1) (p2 : h1 <+: h2) (p3 : h2 <+: h3) (hM : M ≤ h.length)
    (r1 : Rd M h1.length h1 a u) (r2 : Rd M h2.length h2 b v) (r3 : Rd M h3.length h3 c w) : ∃ o h', ev C (.tup [x, y, z]) σ h = .ok o h' ∧ h <+: h' ∧ Rd M h'.length h' (.tuple [a, b, c]) o := by
  have p4 : h3 <+: h3 ++ [O.tuple [u, v, w]] := List.prefix_append _ _
  have l1 := pre_len p1; have l2 := pre_len p2; have l3 := pre_len p3; have l4 := pre_len p4
  refine ⟨.ref h3.length, h3 ++ [O.tuple [u, v, w]], ?_, ((p1.trans p2).trans p3).trans p4, _, _, rfl, by omega, by simp, by simp, _, _, rfl, r1.pre ((p2.trans p3).trans p4) (Nat.le_refl _) (Nat.le_refl _) (by omega), _, _, rfl,
    r2.pre (p3.trans p4) (Nat.le_refl _) (Nat.le_refl _) (by omega), _, _, rfl, r3.pre p4 (Nat.le_refl _) (Nat.le_refl _) (by omega), rfl⟩
  rw [ev]
  simp only [evL, e1, e2, e3, R.bind, Mine.alloc, List.length_cons, List.length_nil]
  rw [if_pos (by decide)]

theorem ev_var {i : Nat} {v : V} (e : σ i = some v) : ev C (.var i) σ h = .ok v h := by rw [ev, e]; rfl
theorem ev_int (i : Int) : ev C (.int i) σ h = .ok (.int i) h := by rw [ev]
theorem ev_subL {x y : X} {a : Nat} {vs : List V} {k : Int} {v : V} {h2 : H} (e : ev C x σ h = .ok (.ref a) h1) (e' : ev C y σ h1 = .ok (.int k) h2) (ha : h2[a]? = some (O.list vs) ∨ h2[a]? = some (O.tuple vs)) (hb : vs.length ≤ big) (hk : 0 ≤ k) (hv : vs[k.toNat]? = some v) : ev C (.sub x y) σ h = .ok v h2 := by
  have hl := (List.getElem?_eq_some_iff.mp hv).1
  have hs : seqAt h2 (.ref a) = some vs := by rcases ha with ha | ha <;> simp [seqAt, ha]
  rw [ev, e]; simp only [R.bind, e', itemV, hs, idx]
  rw [if_pos ⟨hk, by omega, hb⟩]
  simp [hv, R.ofOpt]
end

theorem any_int (s : Int) : ∀ xs : List Int, ((xs.map PyData.int).any fun y => PyData.eqv y (.int s)) = decide (s ∈ xs)
  | [] => by simp
  | x :: xs => by
    simp only [List.map_cons, List.any_cons, any_int s xs, PyData.eqv, List.mem_cons]
    by_cases e : s = x
    · simp [e]
    · have : (x == s) = false := by simpa using fun q : x = s => e q.symm
      simp [this, e]
theorem inV_iL {M N : Nat} {h : H} {xs : List Int} {b : V} {s : Int} (r : Rd M N h (iL xs) b) : inV h (.int s) b = some (decide (s ∈ xs)) := by
  unfold inV
  rw [Rd.rd _ b 6 r (by have := dep_iL xs; omega), show Mine.rd 6 h (.int s) = some (.int s) from rfl]
  have : PyData.canLayAll0 (xs.map .int) = true := by have := lay_iL xs; rwa [PyData.canLay0] at this
  simp only [this, show PyData.canLay0 (.int s) = true from by simp [PyData.canLay0], Bool.and_self, if_true, any_int]
end Mine

set_option autoImplicit false
set_option linter.unusedVariables false
set_option linter.unusedSimpArgs false
set_option maxRecDepth 100000
namespace Mine
open PySem

theorem map_map_bool (xs : List Int) (f : Int → Bool) : xs.map (fun x => PyData.bool (f x)) = (xs.map f).map PyData.bool := by rw [List.map_map]; rfl
theorem all_id_map {α : Type} (f : α → Bool) (xs : List α) : (xs.map f).all id = xs.all f := by simp [List.all_map]

theorem f_numbers (n : Nat) {h : H} {a : Nat} {xs : List Int} {lo hi b : Int} (ha : h[a]? = some (O.list (xs.map V.int))) (hb : xs.length ≤ big) :
    ∃ h', Fn defs consts (n + 2) 1 [.ref a, .int lo, .int hi, .int b] h = .ok (.bool (decide (lo ≤ xs.length ∧ xs.length ≤ hi) && xs.all fun x => decide (0 ≤ x ∧ x ≤ b - 1))) h' ∧ h <+: h' := by
  show ∃ h', runDef (cx defs consts (n + 1)) d_are_numbers _ h = _ ∧ _
  by_cases hc : lo ≤ (xs.length : Int) ∧ (xs.length : Int) ≤ hi
  · obtain ⟨v, h', e, p, r⟩ := comp_all (C := cx defs consts (n + 1)) (σ := updL noSto [0, 1, 2, 3] [.ref a, .int lo, .int hi, .int b]) (h := h) (elt := (.call 0 [(.var 4), (.int 0), (.bin .Sub (.var 3) (.int 1))])) (i := 4) (it := .val (.var 0))
      h.length (intPairs xs) (fun x => .bool (decide (0 ≤ x ∧ x ≤ b - 1))) (evS_list (ev_var rfl) ha) (by rw [intPairs_1]) (by simpa [intPairs] using hb) ha (Nat.le_refl _) (fun q hq h2 _ => by
        obtain ⟨_, hq⟩ := intPairs_mem hq
        refine ⟨_, h2, ?_, List.prefix_refl _, rfl⟩
        simp [ev, evL, R.bind, R.ofOpt, updL, upd, hq, binV, intOp, cx_F, f_among])
    rw [intPairs_2, map_map_bool] at r
    have e2 := ev_all e r
    rw [all_id_map] at e2
    refine ⟨h', ?_, p⟩
    simp only [runDef, d_are_numbers, List.length_cons, List.length_nil, if_true]
    rw [exs_next (σ' := updL noSto [0, 1, 2, 3] [.ref a, .int lo, .int hi, .int b]) (h' := h), exs_ret (ex_retv e2)]
    · simp [hc]
    · simp [ex, ev, evL, evB, evC, R.bind, R.ofOpt, updL, upd, kindV, isiK, tyNo, kdNo, truthV, cmpV, ha, biV, seqAt, hb, hc, exs]
  · refine ⟨h, ?_, List.prefix_refl _⟩
    simp only [hc]
    by_cases h1 : lo ≤ (xs.length : Int)
    · have h2 : ¬ (xs.length : Int) ≤ hi := fun q => hc ⟨h1, q⟩
      simp [runDef, d_are_numbers, exs, ex, ev, evL, evB, evC, R.bind, R.ofOpt, updL, upd, kindV, isiK, tyNo, kdNo, truthV, cmpV, ha, biV, seqAt, hb, h1, h2]
    · simp [runDef, d_are_numbers, exs, ex, ev, evL, evB, evC, R.bind, R.ofOpt, updL, upd, kindV, isiK, tyNo, kdNo, truthV, cmpV, ha, biV, seqAt, hb, h1]

noncomputable def rising (xs : List Int) : Bool := (fromTo 1 xs.length).all fun k => decide ((xs[(k - 1).toNat]?).getD 0 < (xs[k.toNat]?).getD 0)

noncomputable def isTie (xs : List Int) : Bool := decide (xs.length ≤ 12) && (xs.all fun x => decide (0 ≤ x ∧ x ≤ 11)) && rising xs

theorem f_tie (n : Nat) {h : H} {a : Nat} {xs : List Int} (ha : h[a]? = some (O.list (xs.map V.int))) (ht : isTie xs = true) :
    ∃ h', Fn defs consts (n + 3) 2 [.ref a] h = .ok (.bool true) h' ∧ h <+: h' := by
  show ∃ h', runDef (cx defs consts (n + 2)) d_is_tie _ h = _ ∧ _
  simp only [isTie, Bool.and_eq_true, decide_eq_true_eq] at ht
  obtain ⟨⟨t1, t2⟩, t3⟩ := ht
  have hb : xs.length ≤ big := by unfold big; omega
  obtain ⟨h1, e1, p1⟩ := f_numbers n (lo := 0) (hi := 12) (b := 12) ha hb
  have g1 : (decide ((0 : Int) ≤ xs.length ∧ (xs.length : Int) ≤ 12) && xs.all fun x => decide (0 ≤ x ∧ x ≤ 12 - 1)) = true := by
    have : (0 : Int) ≤ xs.length ∧ (xs.length : Int) ≤ 12 := by omega
    simpa [this] using t2
  rw [g1] at e1
  have ha1 := pre_get p1 ha
  obtain ⟨v, h', e, p, r⟩ := comp_all (C := cx defs consts (n + 2)) (σ := updL noSto [0] [.ref a]) (h := h1) (elt := (.cmp (.sub (.var 0) (.bin .Sub (.var 5) (.int 1))) [.Lt] [(.sub (.var 0) (.var 5))])) (i := 5) (it := .range [(.int 1), (.bi .len [(.var 0)])])
      h1.length (intPairs (fromTo 1 xs.length)) (fun k => .bool (decide ((xs[(k - 1).toNat]?).getD 0 < (xs[k.toNat]?).getD 0)))
      (evS_range2 (ev_int 1) (b := xs.length) (by simp [ev, evL, R.bind, R.ofOpt, updL, upd, biV, seqAt, ha1, hb]) (by decide) (by decide) (by omega) (by omega)) (by rw [intPairs_1]) (by simp [intPairs, fromTo_len]; unfold big; omega) trivial (Nat.le_refl _) (fun q hq h2 p2 => by
        obtain ⟨hm, hq⟩ := intPairs_mem hq
        have hm := fromTo_mem.mp hm
        refine ⟨_, h2, ?_, List.prefix_refl _, rfl⟩
        have ha2 := pre_get p2 ha1
        have k1 : (q.2 - 1).toNat < xs.length := by omega
        have k2 : q.2.toNat < xs.length := by omega
        rw [ev, ev_subL (ev_var (v := .ref a) (by simp [updL, upd])) (h2 := h2) (k := q.2 - 1) (v := .int xs[(q.2 - 1).toNat]) (by simp [ev, R.bind, R.ofOpt, updL, upd, hq, binV, intOp]) (.inl ha2) (by simpa using hb) (by omega) (by rw [List.getElem?_map, List.getElem?_eq_getElem k1]; rfl)]
        simp only [R.bind, evC]
        rw [ev_subL (ev_var (v := .ref a) (by simp [updL, upd])) (h2 := h2) (k := q.2) (v := .int xs[q.2.toNat]) (by simp [ev, R.bind, R.ofOpt, updL, upd, hq, binV, intOp]) (.inl ha2) (by simpa using hb) (by omega) (by rw [List.getElem?_map, List.getElem?_eq_getElem k2]; rfl)]
        simp only [cmpV, List.getElem?_eq_getElem k1, List.getElem?_eq_getElem k2, Option.getD_some])
  rw [intPairs_2, map_map_bool] at r
  have e2 := ev_all e r
  rw [all_id_map, show ((fromTo 1 xs.length).all fun k => decide ((xs[(k - 1).toNat]?).getD 0 < (xs[k.toNat]?).getD 0)) = true from t3] at e2
  refine ⟨h', ?_, p1.trans p⟩
  simp only [runDef, d_is_tie, List.length_cons, List.length_nil, if_true]
  rw [exs_next (σ' := updL noSto [0] [.ref a]) (h' := h1), exs_ret (ex_retv e2)]
  simp [ex, ev, evL, R.bind, R.ofOpt, updL, upd, truthV, exs, cx_F, cx_G, const0, e1]

/-- a loom's three lists -/
abbrev lD (th : List Int) (ti : List (List Int)) (tr : List Int) : PyData := .tuple [iL th, iLL ti, iL tr]
theorem dep_lD (th : List Int) (ti : List (List Int)) (tr : List Int) : dep (lD th ti tr) ≤ 4 := by
  rw [dep]
  refine Nat.succ_le_succ (depL_le fun d hd => ?_)
  have h1 := dep_iL th; have h2 := dep_iLL ti; have h3 := dep_iL tr
  simp only [List.mem_cons, List.not_mem_nil, or_false] at hd
  rcases hd with rfl | rfl | rfl <;> omega
theorem lay_lD (th : List Int) (ti : List (List Int)) (tr : List Int) : (lD th ti tr).canLay0 = true := by
  rw [PyData.canLay0]
  refine lay_all fun d hd => ?_
  simp only [List.mem_cons, List.not_mem_nil, or_false] at hd
  rcases hd with rfl | rfl | rfl
  · exact lay_iL _
  · exact lay_iLL _
  · exact lay_iL _

/-- a loom copied, as need_loom and the law do it -/
theorem ev_loomCopy {C : Cx} {σ : Sto} {h : H} {s t : Nat} {v : V} {M N : Nat} {th : List Int} {ti : List (List Int)} {tr : List Int} (hs : σ s = some v) (r : Rd M N h (lD th ti tr) v) (hN : N ≤ h.length) (b1 : th.length ≤ big) (b2 : ti.length ≤ big) (b3 : ∀ x ∈ ti, x.length ≤ big) (b4 : tr.length ≤ big) :
    ∃ w h', ev C (.tup [(.bi .list [(.sub (.var s) (.int 0))]), (.comp (.bi .list [(.var t)]) t (.val (.sub (.var s) (.int 1))) []), (.bi .list [(.sub (.var s) (.int 2))])]) σ h = .ok w h' ∧ h <+: h' ∧ Rd h.length h'.length h' (lD th ti tr) w := by
  obtain ⟨a, vs, rfl, _, haN, ha, rl⟩ := r
  obtain ⟨v0, _, rfl, r0, v1, _, rfl, r1, v2, _, rfl, r2, hnil⟩ := rl
  obtain rfl : _ = [] := hnil
  obtain ⟨w0, h1, e0, p1, q0⟩ := ev_copy (C := C) (σ := σ) (h := h) (h1 := h) (x := .sub (.var s) (.int 0)) (ev_subL (ev_var hs) (ev_int 0) (.inr ha) (by simp [big]) (Int.le_refl 0) (show [v0, v1, v2][(0 : Int).toNat]? = some v0 from rfl)) r0 b1
  have es : ev C (.sub (.var s) (.int 1)) σ h1 = .ok v1 h1 := ev_subL (ev_var hs) (ev_int 1) (.inr (pre_get p1 ha)) (by simp [big]) (by decide) (show [v0, v1, v2][(1 : Int).toNat]? = some v1 from rfl)
  have r1' := r1.pre p1 hN (Nat.le_refl _) (Nat.le_refl _)
  obtain ⟨c, ws, rfl, _, hcN, hc, rw_⟩ := r1'
  obtain ⟨z1, z2, z3⟩ := zip_pairs rw_
  have l1 := pre_len p1
  obtain ⟨w1, h2, e1, p2, q1⟩ := comp_all (C := C) (σ := σ) (h := h1) (elt := .bi .list [.var t]) (i := t) (it := .val (.sub (.var s) (.int 1))) h.length (ws.zip ti) iL (evS_list es hc) z1.symm (by have := congrArg List.length z2; rw [List.length_map] at this; omega) hc l1 (fun q hq h3 p3 => by
    obtain ⟨m1, m2⟩ := z3 q hq
    obtain ⟨x, h4, e4, p4, q4⟩ := ev_copy (C := C) (σ := upd σ t q.1) (x := .var t) (h := h3) (h1 := h3) (ev_var (by simp [upd])) (m2.pre p3 (by omega) (Nat.le_refl _) (Nat.le_refl _)) (b3 _ m1)
    exact ⟨x, h4, e4, p4, q4.wide (by have := pre_len p3; omega) (Nat.le_refl _)⟩)
  rw [z2] at q1
  obtain ⟨w2, h3, e2, p3, q2⟩ := ev_copy (C := C) (σ := σ) (h := h2) (h1 := h2) (x := .sub (.var s) (.int 2)) (ev_subL (ev_var hs) (ev_int 2) (.inr (pre_get (p1.trans p2) ha)) (by simp [big]) (by decide) (show [v0, .ref c, v2][(2 : Int).toNat]? = some v2 from rfl)) (r2.pre (p1.trans p2) hN (Nat.le_refl _) (Nat.le_refl _)) b4
  have l2 := pre_len p2
  exact ev_tup3 e0 e1 e2 p1 p2 p3 (Nat.le_refl _) q0 q1 (q2.wide (by omega) (Nat.le_refl _))
end Mine

set_option autoImplicit false
set_option linter.unusedVariables false
set_option linter.unusedSimpArgs false
set_option maxRecDepth 100000
namespace Mine
open PySem

structure IsLoom (th : List Int) (ti : List (List Int)) (tr : List Int) : Prop where
  h1 : 1 ≤ th.length ∧ th.length ≤ 12
  h2 : ∀ x ∈ th, 0 ≤ x ∧ x ≤ 11
  i1 : 1 ≤ ti.length ∧ ti.length ≤ 12
  i2 : ∀ x ∈ ti, isTie x = true
  r1 : 1 ≤ tr.length ∧ tr.length ≤ 12
  r2 : ∀ x ∈ tr, 0 ≤ x ∧ x ≤ (ti.length : Int) - 1

theorem f_loom (n : Nat) {h : H} {v : V} {M N : Nat} {th : List Int} {ti : List (List Int)} {tr : List Int} (r : Rd M N h (lD th ti tr) v) (hN : N ≤ h.length) (L : IsLoom th ti tr) :
    ∃ h', Fn defs consts (n + 4) 3 [v] h = .ok (.bool true) h' ∧ h <+: h' := by
  show ∃ h', runDef (cx defs consts (n + 3)) d_is_loom _ h = _ ∧ _
  obtain ⟨a, vs, rfl, _, haN, ha, rl⟩ := r
  obtain ⟨v0, _, rfl, r0, v1, _, rfl, r1, v2, _, rfl, r2, hnil⟩ := rl
  obtain rfl : _ = [] := hnil
  have r2' := r2
  obtain ⟨a0, _, rfl, _, _, ha0, q0⟩ := r0
  obtain rfl := RdL.ints_.mp q0
  obtain ⟨a1, ws, rfl, _, _, ha1, q1⟩ := r1
  obtain ⟨a2, _, rfl, _, _, ha2, q2⟩ := r2
  obtain rfl := RdL.ints_.mp q2
  have wl : ws.length = ti.length := by rw [q1.length, List.length_map]
  have big1 : ws.length ≤ big := by have := L.i1; unfold big; omega
  obtain ⟨h1, e1, p1⟩ := f_numbers (n + 1) (lo := 1) (hi := 12) (b := 12) ha0 (by have := L.h1; unfold big; omega)
  have g1 : (decide ((1 : Int) ≤ th.length ∧ (th.length : Int) ≤ 12) && th.all fun x => decide (0 ≤ x ∧ x ≤ 12 - 1)) = true := by
    have : (1 : Int) ≤ th.length ∧ (th.length : Int) ≤ 12 := by have := L.h1; omega
    simpa [this] using L.h2
  rw [g1] at e1
  have hw1 := pre_get p1 ha1
  have len1 : ((ws.length : Int)) = ti.length := by omega
  obtain ⟨z1, z2, z3⟩ := zip_pairs q1
  obtain ⟨v', h2, e2, p2, q2'⟩ := comp_all (C := cx defs consts (n + 3)) (σ := updL (updL noSto [0] [.ref a]) [6, 7, 8] [.ref a0, .ref a1, .ref a2]) (h := h1) (elt := .call 2 [.var 9]) (i := 9) (it := .val (.var 7))
    h1.length (ws.zip ti) (fun _ => .bool true) (evS_list (ev_var rfl) hw1) z1.symm (by have := congrArg List.length z2; rw [List.length_map] at this; omega) hw1 (Nat.le_refl _) (fun q hq h3 p3 => by
      obtain ⟨m1, m2⟩ := z3 q hq
      obtain ⟨b, _, e, _, hbN, hb, qb⟩ := m2
      obtain rfl := RdL.ints_.mp qb
      obtain ⟨h4, e4, p4⟩ := f_tie n (pre_get (p1.trans p3) hb) (L.i2 _ m1)
      exact ⟨_, h4, by simp [ev, evL, R.bind, R.ofOpt, upd, e, cx_F, e4], p4, rfl⟩)
  have e3 := ev_all (bs := ti.map fun _ => true) e2 (by rw [z2] at q2'; rw [List.map_map]; exact q2')
  rw [show (ti.map fun _ => true).all id = true from by simp] at e3
  obtain ⟨h3, e4, p3⟩ := f_numbers (n + 1) (lo := 1) (hi := 12) (b := ti.length) (pre_get (p1.trans p2) ha2) (by have := L.r1; unfold big; omega)
  have g3 : (decide ((1 : Int) ≤ tr.length ∧ (tr.length : Int) ≤ 12) && tr.all fun x => decide (0 ≤ x ∧ x ≤ (ti.length : Int) - 1)) = true := by
    have : (1 : Int) ≤ tr.length ∧ (tr.length : Int) ≤ 12 := by have := L.r1; omega
    simpa [this] using L.r2
  rw [g3] at e4
  have hw2 := pre_get p2 hw1
  refine ⟨h3, ?_, (p1.trans p2).trans p3⟩
  simp only [runDef, d_is_loom, List.length_cons, List.length_nil, if_true]
  rw [exs_next (σ' := updL noSto [0] [.ref a]) (h' := h), exs_next (ex_unpack (v := .ref a) (vs := [.ref a0, .ref a1, .ref a2]) (ev_var rfl) (by simp [tupAt, ha]) rfl),
    exs_next (σ' := updL (updL noSto [0] [.ref a]) [6, 7, 8] [.ref a0, .ref a1, .ref a2]) (h' := h1), exs_ret (v := .bool true) (h' := h3)]
  · refine ex_retv ?_
    rw [ev, evB, e3]
    simp [R.bind, truthV, evB, ev, evL, R.ofOpt, updL, upd, cx_F, cx_G, const0, biV, seqAt, hw2, big1, len1, e4]
  · have i1 : (1 : Int) ≤ ti.length ∧ (ti.length : Int) ≤ 12 := by have := L.i1; omega
    simp [ex, ev, evL, evB, evC, R.bind, R.ofOpt, updL, upd, kindV, isiK, tyNo, kdNo, truthV, cmpV, biV, seqAt, cx_F, cx_G, const0, e1, hw1, big1, len1, i1, exs]
  · simp [ex, ev, evL, evB, evC, R.bind, R.ofOpt, updL, upd, kindV, isiK, tyNo, kdNo, truthV, cmpV, biV, seqAt, ha, big, eqV_int, exs]

theorem f_needLoom (n : Nat) {h : H} {v : V} {M N : Nat} {th : List Int} {ti : List (List Int)} {tr : List Int} (r : Rd M N h (lD th ti tr) v) (hN : N ≤ h.length) (L : IsLoom th ti tr) :
    ∃ w h', Fn defs consts (n + 5) 4 [v] h = .ok w h' ∧ h <+: h' ∧ Rd h.length h'.length h' (lD th ti tr) w := by
  show ∃ w h', runDef (cx defs consts (n + 4)) d_need_loom _ h = _ ∧ _
  obtain ⟨h1, e1, p1⟩ := f_loom n r hN L
  have l1 := pre_len p1
  obtain ⟨w, h2, e2, p2, q⟩ := ev_loomCopy (C := cx defs consts (n + 4)) (σ := updL noSto [0] [v]) (s := 0) (t := 9) rfl (r.pre p1 hN (Nat.le_refl _) (Nat.le_refl _)) (by omega) (by have := L.h1; unfold big; omega) (by have := L.i1; unfold big; omega)
    (fun x hx => by have := L.i2 x hx; simp only [isTie, Bool.and_eq_true, decide_eq_true_eq] at this; unfold big; omega) (by have := L.r1; unfold big; omega)
  refine ⟨w, h2, ?_, p1.trans p2, q.wide l1 (Nat.le_refl _)⟩
  simp only [runDef, d_need_loom, List.length_cons, List.length_nil, if_true]
  rw [exs_next (σ' := updL noSto [0] [v]) (h' := h1), exs_ret (ex_retv e2)]
  simp [ex, ev, evL, R.bind, R.ofOpt, updL, upd, truthV, exs, cx_F, e1]

theorem f_copy (n : Nat) {h : H} {v : V} {M N : Nat} {th : List Int} {ti : List (List Int)} {tr : List Int} (r : Rd M N h (lD th ti tr) v) (hN : N ≤ h.length) (L : IsLoom th ti tr) :
    ∃ w h', Fn defs consts (n + 1) 11 [v] h = .ok w h' ∧ h <+: h' ∧ Rd h.length h'.length h' (lD th ti tr) w := by
  show ∃ w h', runDef (cx defs consts n) d_copy_l _ h = _ ∧ _
  obtain ⟨w, h2, e2, p2, q⟩ := ev_loomCopy (C := cx defs consts n) (σ := updL noSto [29] [v]) (s := 29) (t := 30) rfl r hN (by have := L.h1; unfold big; omega) (by have := L.i1; unfold big; omega)
    (fun x hx => by have := L.i2 x hx; simp only [isTie, Bool.and_eq_true, decide_eq_true_eq] at this; unfold big; omega) (by have := L.r1; unfold big; omega)
  refine ⟨w, h2, ?_, p2, q⟩
  simp only [runDef, d_copy_l, List.length_cons, List.length_nil, if_true]
  rw [exs_ret (ex_retv e2)]

/-- the cloth of a loom -/
noncomputable def clothOf (th : List Int) (ti : List (List Int)) (tr : List Int) : List (List Int) := tr.map fun t => th.map fun s => if s ∈ (ti[t.toNat]?).getD [] then 1 else 0

theorem f_woven (n : Nat) {h : H} {v : V} {M N : Nat} {th : List Int} {ti : List (List Int)} {tr : List Int} (r : Rd M N h (lD th ti tr) v) (hN : N ≤ h.length) (L : IsLoom th ti tr) :
    ∃ w h', Fn defs consts (n + 6) 5 [v] h = .ok w h' ∧ h <+: h' ∧ Rd h.length h'.length h' (iLL (clothOf th ti tr)) w := by
  show ∃ w h', runDef (cx defs consts (n + 5)) d_woven _ h = _ ∧ _
  obtain ⟨w1, h1, e1, p1, q1⟩ := f_needLoom n r hN L
  obtain ⟨a, vs, rfl, _, haN, ha, rl⟩ := q1
  obtain ⟨v0, _, rfl, r0, v1, _, rfl, r1, v2, _, rfl, r2, hnil⟩ := rl
  obtain rfl : _ = [] := hnil
  obtain ⟨a0, _, rfl, _, _, ha0, q0⟩ := r0
  obtain rfl := RdL.ints_.mp q0
  obtain ⟨a1, ws, rfl, _, _, ha1, q1⟩ := r1
  obtain ⟨a2, _, rfl, _, _, ha2, q2⟩ := r2
  obtain rfl := RdL.ints_.mp q2
  have l1 := pre_len p1
  have wl : ws.length = ti.length := by rw [q1.length, List.length_map]
  obtain ⟨w, h2, e2, p2, q3⟩ := comp_all (C := cx defs consts (n + 5)) (σ := updL (updL noSto [10] [v]) [6, 7, 8] [.ref a0, .ref a1, .ref a2]) (h := h1) (elt := (.comp (.bi .int [(.cmp (.var 11) [.In] [(.sub (.var 7) (.var 12))])]) 11 (.val (.var 6)) [])) (i := 12) (it := .val (.var 8))
    h.length (intPairs tr) (fun t => iL (th.map fun s => if s ∈ (ti[t.toNat]?).getD [] then 1 else 0)) (evS_list (ev_var rfl) ha2) (by rw [intPairs_1]) (by have := L.r1; simp [intPairs]; unfold big; omega) ha2 l1 (fun q hq h3 p3 => by
      obtain ⟨hm, hq⟩ := intPairs_mem hq
      have hm := L.r2 _ hm
      have hk : q.2.toNat < ti.length := by omega
      obtain ⟨w', hw', rw'⟩ := q1.at (i := q.2.toNat) (d := iL ti[q.2.toNat]) (by rw [List.getElem?_map, List.getElem?_eq_getElem hk]; rfl)
      obtain ⟨x, h4, e4, p4, q4⟩ := comp_all (C := cx defs consts (n + 5)) (σ := upd (updL (updL noSto [10] [v]) [6, 7, 8] [.ref a0, .ref a1, .ref a2]) 12 q.1) (h := h3) (elt := (.bi .int [(.cmp (.var 11) [.In] [(.sub (.var 7) (.var 12))])])) (i := 11) (it := .val (.var 6))
        h.length (intPairs th) (fun s => .int (if s ∈ (ti[q.2.toNat]?).getD [] then 1 else 0)) (evS_list (ev_var rfl) (pre_get p3 ha0)) (by rw [intPairs_1]) (by have := L.h1; simp [intPairs]; unfold big; omega) (pre_get p3 ha0) (by have := pre_len p3; omega) (fun q' hq' h5 p5 => by
          obtain ⟨_, hq'⟩ := intPairs_mem hq'
          refine ⟨_, h5, ?_, List.prefix_refl _, rfl⟩
          have hin := inV_iL (s := q'.2) (rw'.pre (p3.trans p5) (Nat.le_refl _) (Nat.le_refl _) (Nat.le_refl _))
          have esub := ev_subL (C := cx defs consts (n + 5)) (σ := upd (upd (updL (updL noSto [10] [v]) [6, 7, 8] [.ref a0, .ref a1, .ref a2]) 12 q.1) 11 q'.1) (h := h5) (x := .var 7) (y := .var 12) (ev_var (v := .ref a1) rfl) (ev_var (h := h5) (v := .int q.2) (by simp [upd, hq])) (.inl (pre_get (p3.trans p5) ha1)) (by have := L.i1; unfold big; omega) hm.1 hw'
          have evar := ev_var (C := cx defs consts (n + 5)) (σ := upd (upd (updL (updL noSto [10] [v]) [6, 7, 8] [.ref a0, .ref a1, .ref a2]) 12 q.1) 11 q'.1) (h := h5) (i := 11) (v := .int q'.2) (by simp [upd, hq'])
          have ecmp : ev (cx defs consts (n + 5)) (.cmp (.var 11) [.In] [(.sub (.var 7) (.var 12))]) (upd (upd (updL (updL noSto [10] [v]) [6, 7, 8] [.ref a0, .ref a1, .ref a2]) 12 q.1) 11 q'.1) h5 = .ok (.bool (decide (q'.2 ∈ ti[q.2.toNat]))) h5 := by
            rw [ev, evar]; simp only [R.bind, evC, esub, cmpV, hin]
          rw [ev]
          simp only [evL, ecmp, R.bind, biV]
          simp [List.getElem?_eq_getElem hk])
      refine ⟨x, h4, e4, p4, ?_⟩
      rw [intPairs_2] at q4
      simpa [iL, List.map_map, Function.comp_def] using q4)
  rw [intPairs_2] at q3
  refine ⟨w, h2, ?_, p1.trans p2, ?_⟩
  · simp only [runDef, d_woven, List.length_cons, List.length_nil, if_true]
    rw [exs_next (ex_unpack (v := .ref a) (vs := [.ref a0, .ref a1, .ref a2]) (h' := h1) (by simp [ev, evL, R.bind, R.ofOpt, updL, upd, cx_F, e1]) (by simp [tupAt, ha]) rfl), exs_ret (ex_retv e2)]
  · simpa [clothOf, iLL, List.map_map, Function.comp_def] using q3
end Mine

set_option autoImplicit false
set_option linter.unusedVariables false
set_option linter.unusedSimpArgs false
set_option maxRecDepth 100000
namespace Mine
open PySem

/-- two stores alike but for some slots -/
noncomputable def Agr (t : List Nat) (σ σ' : Sto) : Prop := ∀ j, j ∉ t → σ' j = σ j
theorem Agr.refl (t : List Nat) (σ : Sto) : Agr t σ σ := fun _ _ => rfl
theorem Agr.trans {t : List Nat} {a b c : Sto} (x : Agr t a b) (y : Agr t b c) : Agr t a c := fun j hj => (y j hj).trans (x j hj)
theorem Agr.upd {t : List Nat} {a b : Sto} {i : Nat} {v : V} (x : Agr t a b) (hi : i ∈ t) : Agr t a (upd b i v) := fun j hj => by
  have : j ≠ i := fun e => hj (e ▸ hi)
  simp [Mine.upd, this, x j hj]
theorem Agr.wide {t t' : List Nat} {a b : Sto} (x : Agr t a b) (h : ∀ j ∈ t, j ∈ t') : Agr t' a b := fun j hj => x j fun q => hj (h j q)

theorem pre_set {h h1 : H} {a : Nat} {o : O} (hp : h <+: h1) (ha : h.length ≤ a) : h <+: h1.set a o := by
  obtain ⟨Δ, rfl⟩ := hp
  rw [List.set_append_right _ _ ha]
  exact List.prefix_append _ _

section
variable {C : Cx} {σ : Sto} {h h1 h2 : H}
theorem ev_append {o x : X} {a : Nat} {vs : List V} {v : V} (eo : ev C o σ h = .ok (.ref a) h1) (ha : h1[a]? = some (O.list vs)) (ex : ev C x σ h1 = .ok v h2) (ha1 : h2[a]? = some (O.list vs)) (hb : vs.length ≤ big) :
    ev C (.meth .append o [x]) σ h = .ok .none (h2.set a (.list (vs ++ [v]))) := by
  rw [ev, eo]
  simp [R.bind, kindV, ha, evL, ex, meV, ha1, hb]
theorem ev_clear {o : X} {a : Nat} {vs : List V} (eo : ev C o σ h = .ok (.ref a) h1) (ha : h1[a]? = some (O.list vs)) (hb : vs.length ≤ big) :
    ev C (.meth .clear o []) σ h = .ok .none (h1.set a (.list [])) := by
  rw [ev, eo]
  simp [R.bind, kindV, ha, evL, meV, hb]
end

/-- a for that builds a list, one element a turn -/
theorem for_build {α : Type} {src : Src} {body : V → Sto → H → RS} {σ : Sto} {hp h : H} {r : Nat} {t : List Nat} {g : α → PyData} (ps : List (V × α)) (hst : ∀ h, hp <+: h → src.stands h) (hr : hp.length ≤ r)
    (hb : ∀ q ∈ ps, ∀ σ' h vs, Agr t σ σ' → hp <+: h → h[r]? = some (O.list vs) → vs.length ≤ ps.length → ∃ σ'' v h1, body q.1 σ' h = .next σ'' (h1.set r (.list (vs ++ [v]))) ∧ h <+: h1 ∧ Agr t σ σ'' ∧ Rd (r + 1) h1.length h1 (g q.2) v)
    (h0 : hp <+: h) (hr0 : h[r]? = some (O.list [])) :
    ∃ σ' h' vs, forR src body (ps.map (·.1)) σ h = .next σ' h' ∧ hp <+: h' ∧ h'[r]? = some (O.list vs) ∧ RdL (r + 1) h'.length h' ((ps.map (·.2)).map g) vs ∧ Agr t σ σ' := by
  have key : ∀ (qs done : List (V × α)) (σ0 : Sto) (h : H) (vs : List V), ps = done ++ qs → Agr t σ σ0 → hp <+: h → h[r]? = some (O.list vs) → RdL (r + 1) h.length h ((done.map (·.2)).map g) vs →
      ∃ σ' h' vs, forR src body (qs.map (·.1)) σ0 h = .next σ' h' ∧ hp <+: h' ∧ h'[r]? = some (O.list vs) ∧ RdL (r + 1) h'.length h' ((ps.map (·.2)).map g) vs ∧ Agr t σ σ' := by
    intro qs
    induction qs with
    | nil =>
      intro done σ0 h vs e ag p hv rl
      refine ⟨σ0, h, vs, by rw [List.map_nil, forR, if_pos (hst h p)], p, hv, ?_, ag⟩
      rw [e, List.append_nil]; exact rl
    | cons q qs ih =>
      intro done σ0 h vs e ag p hv rl
      have lv : vs.length ≤ ps.length := by
        have := rl.length; simp only [List.length_map] at this
        rw [e]; simp; omega
      obtain ⟨σ2, v, h1, e1, p1, ag2, rv⟩ := hb q (by rw [e]; simp) σ0 h vs ag p hv lv
      have hv1 := pre_get p1 hv
      have lt1 := (List.getElem?_eq_some_iff.mp hv1).1
      have sm : Same (r + 1) h1.length h1 (h1.set r (O.list (vs ++ [v]))) := Same.set (.inl (by omega))
      obtain ⟨σ3, h3, ws, e3, p3, hw, rw_, ag3⟩ := ih (done ++ [q]) σ2 (h1.set r (O.list (vs ++ [v]))) (vs ++ [v]) (by rw [e]; simp) ag2 (pre_set (p.trans p1) hr) (by rw [List.getElem?_set_self lt1]) (by
        rw [List.map_append, List.map_append]
        refine RdL.append ?_ ⟨v, [], rfl, ?_, rfl⟩
        · exact RdL.same sm (Nat.le_refl _) (by simp) _ _ (rl.pre p1 (Nat.le_refl _) (Nat.le_refl _) (pre_len p1))
        · exact Rd.same sm (Nat.le_refl _) (by simp) _ _ rv)
      exact ⟨σ3, h3, ws, by rw [List.map_cons, forR, if_pos (hst h p), e1]; exact e3, p3, hw, rw_, ag3⟩
  exact key ps [] σ h [] rfl (Agr.refl _ _) h0 hr0 rfl
end Mine

set_option autoImplicit false
set_option linter.unusedVariables false
set_option linter.unusedSimpArgs false
set_option maxRecDepth 100000
namespace Mine
open PySem

noncomputable def shafts (m : Int) : Int := if m / 320 % 3 = 0 then 3 else if m / 320 % 3 = 1 then 5 else 12
noncomputable def thrOf (s w sh : Int) : List Int := (upto w).map fun j => drawn s j % sh
noncomputable def tieOf (s sh k : Int) : List Int := (upto sh).filter fun x => decide (drawn (s + 2) (20 * k + x) % 5 < 2)
noncomputable def tiesOf (s t sh : Int) : List (List Int) := (upto t).map fun k => tieOf s sh k
noncomputable def trdOf (s w t : Int) : List Int := (upto w).map fun k => drawn (s + 3) k % t

theorem shafts_bounds (m : Int) : 3 ≤ shafts m ∧ shafts m ≤ 12 := by unfold shafts; split <;> (try split) <;> omega

theorem f_loomby (n : Nat) {h : H} {xs : List Int} (hx : xs.length ≤ 63) (h0 : h[0]? = some (O.frozen (xs.map V.int))) {p : Int} (hp : 0 ≤ p) :
    ∃ w h', Fn defs consts (n + 2) 9 [.ref 0, .int p] h = .ok w h' ∧ h <+: h' ∧
      Rd h.length h'.length h' (lD (thrOf (cell xs (p + 1)) (size (cell xs p)) (shafts (cell xs (p + 2)))) (tiesOf (cell xs (p + 1)) (size (cell xs (p + 2))) (shafts (cell xs (p + 2)))) (trdOf (cell xs (p + 1)) (size (cell xs p / 320)) (size (cell xs (p + 2))))) w := by
  show ∃ w h', runDef (cx defs consts (n + 1)) d_loom_by_l _ h = _ ∧ _
  have c0 := f_cell n hx h0 hp
  have c1 := f_cell n hx h0 (show 0 ≤ p + 1 by omega)
  have c2 := f_cell n hx h0 (show 0 ≤ p + 2 by omega)
  generalize hA : cell xs p = A at *
  generalize hS : cell xs (p + 1) = S at *
  generalize hM : cell xs (p + 2) = M at *
  have bw := size_bounds A
  have bf := size_bounds (A / 320)
  have bt := size_bounds M
  have bs := shafts_bounds M
  simp only [runDef, d_loom_by_l, List.length_cons, List.length_nil, if_true]
  rw [exs_next (ex_assign (v := .int S) (h' := h) (by simp [ev, evL, R.bind, R.ofOpt, updL, upd, binV, intOp, cx_F, c1])),
    exs_next (ex_assign (v := .int M) (h' := h) (by simp [ev, evL, R.bind, R.ofOpt, updL, upd, binV, intOp, cx_F, c2])),
    exs_next (ex_assign (v := .int (size A)) (h' := h) (by simp [ev, evL, R.bind, R.ofOpt, updL, upd, binV, intOp, cx_F, c0, f_size])),
    exs_next (ex_assign (v := .int (size (A / 320))) (h' := h) (by simp [ev, evL, R.bind, R.ofOpt, updL, upd, binV, intOp, cx_F, c0, f_size])),
    exs_next (ex_assign (v := .int (size M)) (h' := h) (by simp [ev, evL, R.bind, R.ofOpt, updL, upd, binV, intOp, cx_F, f_size])),
    exs_next (ex_assign (v := .int (shafts M)) (h' := h ++ [O.list [.int 3, .int 5, .int 12]]) (by
      have hk : M / 320 % 3 = 0 ∨ M / 320 % 3 = 1 ∨ M / 320 % 3 = 2 := by omega
      rcases hk with hk | hk | hk <;> simp [ev, evL, R.bind, R.ofOpt, updL, upd, binV, intOp, Mine.alloc, big, itemV, seqAt, idx, shafts, hk]))]
  generalize hσ : upd (upd (upd (upd (upd (upd (updL noSto [13, 18] [V.ref 0, V.int p]) 15 (V.int S)) 19 (V.int M)) 20 (V.int (size A))) 21 (V.int (size (A / 320)))) 22 (V.int (size M))) 23 (V.int (shafts M)) = σ
  have s15 : σ 15 = some (.int S) := by rw [← hσ]; rfl
  have s20 : σ 20 = some (.int (size A)) := by rw [← hσ]; rfl
  have s21 : σ 21 = some (.int (size (A / 320))) := by rw [← hσ]; rfl
  have s22 : σ 22 = some (.int (size M)) := by rw [← hσ]; rfl
  have s23 : σ 23 = some (.int (shafts M)) := by rw [← hσ]; rfl
  have p1 : h <+: h ++ [O.list [.int 3, .int 5, .int 12]] := List.prefix_append _ _
  generalize h ++ [O.list [.int 3, .int 5, .int 12]] = h1 at p1
  clear hσ
  -- the threading
  obtain ⟨w1, h2, e2, p2, q2⟩ := comp_all (C := cx defs consts (n + 1)) (σ := σ) (h := h1) (elt := (.bin .Mod (.call 7 [(.var 15), (.var 25)]) (.var 23))) (i := 25) (it := .range [.var 20])
    h.length (intPairs (upto (size A))) (fun j => .int (drawn S j % shafts M)) (evS_range1 (ev_var s20) (by omega) (by omega)) (by rw [intPairs_1]) (by simp [intPairs, upto_len]; unfold big; omega) trivial (pre_len p1) (fun q hq h3 p3 => by
      obtain ⟨_, hq⟩ := intPairs_mem hq
      refine ⟨_, h3, ?_, List.prefix_refl _, rfl⟩
      have : (0 : Int) < shafts M := by omega
      simp [ev, evL, R.bind, R.ofOpt, upd, s15, s23, hq, binV, intOp, cx_F, f_drawn, this])
  rw [intPairs_2] at q2
  rw [exs_next (ex_assign e2), exs_next (ex_assign (v := .ref h2.length) (h' := h2 ++ [O.list []]) (by simp [ev, evL, R.bind, Mine.alloc, big]))]
  generalize hσ' : upd (upd σ 24 w1) 26 (V.ref h2.length) = σ'
  have t15 : σ' 15 = some (.int S) := by rw [← hσ']; exact s15
  have t21 : σ' 21 = some (.int (size (A / 320))) := by rw [← hσ']; exact s21
  have t22 : σ' 22 = some (.int (size M)) := by rw [← hσ']; exact s22
  have t23 : σ' 23 = some (.int (shafts M)) := by rw [← hσ']; exact s23
  have t24 : σ' 24 = some w1 := by rw [← hσ']; rfl
  have t26 : σ' 26 = some (.ref h2.length) := by rw [← hσ']; rfl
  clear hσ'
  -- the ties
  obtain ⟨σ2, h3, vs, e3, p3, hv3, rv3, ag3⟩ := for_build (src := ⟨(upto (size M)).map V.int, none⟩) (body := fun x σ1 h2 => exs (cx defs consts (n + 1)) [.expr (.meth .append (.var 26) [(.comp (.var 27) 27 (.range [(.var 23)]) [(.cmp (.bin .Mod (.call 7 [(.bin .Add (.var 15) (.int 2)), (.bin .Add (.bin .Mult (.int 20) (.var 14)) (.var 27))]) (.int 5)) [.Lt] [(.int 2)])])])] (upd σ1 14 x) h2)
    (σ := σ') (hp := h2) (h := h2 ++ [O.list []]) (r := h2.length) (t := [14]) (g := fun k => iL (tieOf S (shafts M) k)) (intPairs (upto (size M))) (fun _ _ => trivial) (Nat.le_refl _)
    (fun q hq σ1 h4 us ag p4 hu lu => by
      obtain ⟨_, hq⟩ := intPairs_mem hq
      have a := fun j (hj : j ∉ [14]) => ag j hj
      obtain ⟨w, h5, e5, p5, q5⟩ := comp_over (C := cx defs consts (n + 1)) (σ := upd σ1 14 q.1) (h := h4) (elt := .var 27) (i := 27) (it := .range [.var 23]) (ifs := [(.cmp (.bin .Mod (.call 7 [(.bin .Add (.var 15) (.int 2)), (.bin .Add (.bin .Mult (.int 20) (.var 14)) (.var 27))]) (.int 5)) [.Lt] [(.int 2)])])
        (h2.length + 1) (intPairs (upto (shafts M))) (fun x => decide (drawn (S + 2) (20 * q.2 + x) % 5 < 2)) .int (evS_range1 (n := shafts M) (ev_var (by simp [upd, a, t23])) (by omega) (by omega)) (by rw [intPairs_1]) (by simp [intPairs, upto_len]; unfold big; omega) trivial
        (by have := (List.getElem?_eq_some_iff.mp hu).1; omega)
        (fun q' hq' h6 p6 => by
          obtain ⟨_, hq'⟩ := intPairs_mem hq'
          refine ⟨h6, ?_, List.prefix_refl _⟩
          simp only [evT, testsR]
          rw [show ev (cx defs consts (n + 1)) (.cmp (.bin .Mod (.call 7 [(.bin .Add (.var 15) (.int 2)), (.bin .Add (.bin .Mult (.int 20) (.var 14)) (.var 27))]) (.int 5)) [.Lt] [(.int 2)]) (upd (upd σ1 14 q.1) 27 q'.1) h6 = .ok (.bool (decide (drawn (S + 2) (20 * q.2 + q'.2) % 5 < 2))) h6 from by
            simp [ev, evL, evC, R.bind, R.ofOpt, upd, a, t15, hq, hq', binV, intOp, small, cx_F, f_drawn, cmpV]]
          by_cases hd : drawn (S + 2) (20 * q.2 + q'.2) % 5 < 2 <;> simp [hd, truthV])
        (fun q' hq' _ h6 p6 => by
          obtain ⟨_, hq'⟩ := intPairs_mem hq'
          exact ⟨_, h6, ev_var (by simp [upd, hq']), List.prefix_refl _, rfl⟩)
      rw [intPairs_2] at q5
      have lb : us.length ≤ big := by simp [intPairs, upto_len] at lu; unfold big; omega
      refine ⟨upd σ1 14 q.1, w, h5, ?_, p5, ag.upd (by simp), q5⟩
      rw [exs_next (ex_expr (ev_append (ev_var (by simp [upd, a, t26])) hu e5 (pre_get p5 hu) lb)), exs_nil])
    (List.prefix_append _ _) (by simp)
  rw [exs_next (ex_for (evS_range1 (ev_var t22) (by omega) (by omega)) (by rw [intPairs_1] at e3; exact e3))]
  rw [intPairs_2] at rv3
  have u : ∀ j, j ≠ 14 → σ2 j = σ' j := fun j hj => ag3 j (by simpa using hj)
  have l12 := pre_len p1; have l2 := pre_len p2; have l3 := pre_len p3
  have lt3 := (List.getElem?_eq_some_iff.mp hv3).1
  -- the treadling
  obtain ⟨w3, h4, e4, p4, q4⟩ := comp_all (C := cx defs consts (n + 1)) (σ := σ2) (h := h3) (elt := (.bin .Mod (.call 7 [(.bin .Add (.var 15) (.int 3)), (.var 14)]) (.var 22))) (i := 14) (it := .range [.var 21])
    h.length (intPairs (upto (size (A / 320)))) (fun k => .int (drawn (S + 3) k % size M)) (evS_range1 (ev_var (by rw [u 21 (by decide)]; exact t21)) (by omega) (by omega)) (by rw [intPairs_1]) (by simp [intPairs, upto_len]; unfold big; omega) trivial (by omega) (fun q hq h5 p5 => by
      obtain ⟨_, hq⟩ := intPairs_mem hq
      refine ⟨_, h5, ?_, List.prefix_refl _, rfl⟩
      have : (0 : Int) < size M := by omega
      simp [ev, evL, R.bind, R.ofOpt, upd, u 15 (by decide), u 22 (by decide), t15, t22, hq, binV, intOp, cx_F, f_drawn, this])
  rw [intPairs_2] at q4
  obtain ⟨w, h5, e5, p5, q5⟩ := ev_tup3 (C := cx defs consts (n + 1)) (σ := σ2) (h := h3) (M := h.length) (a := iL (thrOf S (size A) (shafts M))) (b := iLL (tiesOf S (size M) (shafts M))) (c := iL (trdOf S (size (A / 320)) (size M))) (ev_var (i := 24) (by rw [u 24 (by decide)]; exact t24)) (ev_var (i := 26) (by rw [u 26 (by decide)]; exact t26)) e4 (List.prefix_refl _) (List.prefix_refl _) p4 (by omega)
    (by have := q2.pre p3 (Nat.le_refl _) (Nat.le_refl _) l3; simpa [iL, thrOf, List.map_map, Function.comp_def] using this)
    ⟨h2.length, vs, rfl, by omega, lt3, hv3, by
      have := RdL.same (M' := h.length) (N' := h3.length) (Same.refl _ _ _) (by omega) (Nat.le_refl _) _ _ rv3
      simpa [tiesOf, List.map_map, Function.comp_def] using this⟩
    (by simpa [iL, trdOf, List.map_map, Function.comp_def] using q4)
  rw [exs_ret (ex_retv e5)]
  exact ⟨w, h5, rfl, ((p1.trans p2).trans p3).trans p5, q5⟩
end Mine

set_option autoImplicit false
set_option linter.unusedVariables false
set_option linter.unusedSimpArgs false
set_option maxRecDepth 100000
namespace Mine
open PySem

theorem upto_pw (n : Int) : (upto n).Pairwise (· < ·) := by
  unfold upto
  rw [List.pairwise_map]
  exact List.pairwise_lt_range.imp fun h => by omega
theorem rising_pw {xs : List Int} (h : xs.Pairwise (· < ·)) : rising xs = true := by
  unfold rising
  rw [List.all_eq_true]
  intro k hk
  have hk := fromTo_mem.mp hk
  have k1 : (k - 1).toNat < xs.length := by omega
  have k2 : k.toNat < xs.length := by omega
  simp only [List.getElem?_eq_getElem k1, List.getElem?_eq_getElem k2, Option.getD_some, decide_eq_true_eq]
  exact List.pairwise_iff_getElem.mp h _ _ k1 k2 (by omega)

theorem loom_ok {s w t sh f : Int} (hw : 1 ≤ w ∧ w ≤ 12) (ht : 1 ≤ t ∧ t ≤ 12) (hs : 3 ≤ sh ∧ sh ≤ 12) (hf : 1 ≤ f ∧ f ≤ 12) : IsLoom (thrOf s w sh) (tiesOf s t sh) (trdOf s f t) where
  h1 := by simp only [thrOf, List.length_map, upto_len]; omega
  h2 := fun x hx => by
    obtain ⟨j, _, rfl⟩ := List.mem_map.mp hx
    have := Int.emod_nonneg (drawn s j) (show sh ≠ 0 by omega)
    have := Int.emod_lt_of_pos (drawn s j) (show 0 < sh by omega)
    omega
  i1 := by simp only [tiesOf, List.length_map, upto_len]; omega
  i2 := fun x hx => by
    obtain ⟨k, _, rfl⟩ := List.mem_map.mp hx
    have hl : (tieOf s sh k).length ≤ 12 := by
      unfold tieOf
      have := List.length_filter_le (fun x => decide (drawn (s + 2) (20 * k + x) % 5 < 2)) (upto sh)
      rw [upto_len] at this; omega
    have ha : ∀ y ∈ tieOf s sh k, 0 ≤ y ∧ y ≤ 11 := fun y hy => by
      have := upto_mem.mp ((List.mem_filter.mp hy).1); omega
    have hr : rising (tieOf s sh k) = true := rising_pw ((upto_pw sh).filter _)
    simp only [isTie, hl, hr, decide_true, Bool.and_true, Bool.true_and, List.all_eq_true, decide_eq_true_eq]
    exact ha
  r1 := by simp only [trdOf, List.length_map, upto_len]; omega
  r2 := fun x hx => by
    obtain ⟨j, _, rfl⟩ := List.mem_map.mp hx
    have := Int.emod_nonneg (drawn (s + 3) j) (show t ≠ 0 by omega)
    have := Int.emod_lt_of_pos (drawn (s + 3) j) (show 0 < t by omega)
    simp only [tiesOf, List.length_map, upto_len]
    omega

/-- a for that looks and leaves all as it is -/
theorem for_look {src : Src} {body : V → Sto → H → RS} {σ : Sto} {h : H} {t : List Nat} (hs : src.stands h) : ∀ (vs : List V) (σ0 : Sto), Agr t σ σ0 → (∀ v ∈ vs, ∀ σ', Agr t σ σ' → ∃ σ'', body v σ' h = .next σ'' h ∧ Agr t σ σ'') → ∃ σ', forR src body vs σ0 h = .next σ' h ∧ Agr t σ σ'
  | [], σ0, ag, _ => ⟨σ0, by rw [forR, if_pos hs], ag⟩
  | v :: vs, σ0, ag, hb => by
    obtain ⟨σ1, e1, a1⟩ := hb v (by simp) σ0 ag
    obtain ⟨σ2, e2, a2⟩ := for_look hs vs σ1 a1 fun w hw => hb w (by simp [hw])
    exact ⟨σ2, by rw [forR, if_pos hs, e1]; exact e2, a2⟩

/-- a comparison of two things that stand for the same -/
theorem ne_same {M N M' N' : Nat} {h : H} {d : PyData} {v w : V} (x : Rd M N h d v) (y : Rd M' N' h d w) (hd : dep d ≤ 6) (cd : d.canLay0 = true) : eqV h v w = some true := by
  rw [eqV_rd x y hd hd cd cd, SeqAt.eqv_refl d cd]

noncomputable def IsL (h : H) (a n : Nat) : Prop := ∃ vs, h[a]? = some (O.list vs) ∧ vs.length ≤ n
theorem IsL.set {h : H} {a b n m : Nat} {ws : List V} (x : IsL h a n) (hw : ws.length ≤ m) (hn : n ≤ m) : IsL (h.set b (O.list ws)) a m := by
  obtain ⟨vs, h1, h2⟩ := x
  by_cases e : b = a
  · subst e; exact ⟨ws, by rw [List.getElem?_set_self (List.getElem?_eq_some_iff.mp h1).1], hw⟩
  · exact ⟨vs, by rw [List.getElem?_set_ne e]; exact h1, by omega⟩
theorem IsL.app {h Δ : H} {a n : Nat} (x : IsL h a n) : IsL (h ++ Δ) a n := by
  obtain ⟨vs, h1, h2⟩ := x
  exact ⟨vs, pre_get (List.prefix_append _ _) h1, h2⟩
theorem set_ne {h : H} {a b : Nat} {o o' : O} (e : h[a]? = some o) (hne : b ≠ a) : (h.set b o')[a]? = some o := by rw [List.getElem?_set_ne hne]; exact e

theorem law06 (xs : List Int) (hx : xs.length ≤ 63) : ∃ H', Fn defs consts 40 12 [.ref 0] [O.frozen (xs.map V.int)] = .ok (.bool true) H' := by
  show ∃ H', runDef (cx defs consts 39) d_law _ _ = _
  obtain ⟨loom, h1, e1, p1, r1⟩ := f_loomby 37 (h := [O.frozen (xs.map V.int)]) hx rfl (Int.le_refl 0)
  have L := loom_ok (s := cell xs (0 + 1)) (size_bounds (cell xs 0)) (size_bounds (cell xs (0 + 2))) (shafts_bounds (cell xs (0 + 2))) (size_bounds (cell xs 0 / 320))
  generalize thrOf (cell xs (0 + 1)) (size (cell xs 0)) (shafts (cell xs (0 + 2))) = th at *
  generalize tiesOf (cell xs (0 + 1)) (size (cell xs (0 + 2))) (shafts (cell xs (0 + 2))) = ti at *
  generalize trdOf (cell xs (0 + 1)) (size (cell xs 0 / 320)) (size (cell xs (0 + 2))) = tr at *
  have dl := dep_lD th ti tr
  have ll := lay_lD th ti tr
  obtain ⟨kept, h2, e2, p2, r2⟩ := f_copy 38 r1 (Nat.le_refl _) L
  have l2 := pre_len p2
  have loom2 : Rd 0 h2.length h2 (lD th ti tr) loom := r1.pre p2 (Nat.le_refl _) (Nat.zero_le _) l2
  have kept2 : Rd 0 h2.length h2 (lD th ti tr) kept := r2.wide (Nat.zero_le _) (Nat.le_refl _)
  obtain ⟨found, h3, e3, p3, r3⟩ := f_needLoom 34 loom2 (Nat.le_refl _) L
  have l3 := pre_len p3
  have q31 : eqV h3 found kept = some true := ne_same r3 (kept2.pre p3 (Nat.le_refl _) (Nat.le_refl _) l3) (by omega) ll
  have q32 : eqV h3 loom kept = some true := ne_same (loom2.pre p3 (Nat.le_refl _) (Nat.le_refl _) l3) (kept2.pre p3 (Nat.le_refl _) (Nat.le_refl _) l3) (by omega) ll
  obtain ⟨a, vs, rfl, ga, haN, ha, rl⟩ := r3
  obtain ⟨v0, _, rfl, k0, v1, _, rfl, k1, v2, _, rfl, k2, hnil⟩ := rl
  obtain rfl : _ = [] := hnil
  obtain ⟨a0, _, rfl, g0, _, ha0, m0⟩ := k0
  obtain rfl := RdL.ints_.mp m0
  obtain ⟨a1, ws, rfl, g1, _, ha1, m1⟩ := k1
  obtain ⟨a2, _, rfl, g2, _, ha2, m2⟩ := k2
  obtain rfl := RdL.ints_.mp m2
  have wl : ws.length = ti.length := by rw [m1.length, List.length_map]
  have i1 := L.i1; have j1 := L.h1; have o1 := L.r1
  obtain ⟨b0, w0, gb, hb0, bl, hw0⟩ : ∃ (b0 : Nat) (w0 : List Int), h2.length ≤ b0 ∧ h3[b0]? = some (O.list (w0.map V.int)) ∧ w0.length ≤ 12 ∧ ws[(0 : Int).toNat]? = some (.ref b0) := by
    have hz : 0 < ti.length := by omega
    obtain ⟨w', hw', rw'⟩ := m1.at (i := 0) (d := iL ti[0]) (by rw [List.getElem?_map, List.getElem?_eq_getElem hz]; rfl)
    obtain ⟨b, _, rfl, q1, q2, q3, q4⟩ := rw'
    obtain rfl := RdL.ints_.mp q4
    have := L.i2 _ (List.getElem_mem hz)
    simp only [isTie, Bool.and_eq_true, decide_eq_true_eq] at this
    exact ⟨b, ti[0], q1, q3, this.1.1, hw'⟩
  have ints_ref : ∀ (ys : List Int) (b : Nat), V.ref b ∉ ys.map V.int := fun ys b hm => by obtain ⟨y, _, e⟩ := List.mem_map.mp hm; cases e
  have refIn : V.ref b0 ∈ ws := List.mem_of_getElem? hw0
  have n01 : a0 ≠ a1 := fun e => by rw [e, ha1] at ha0; cases ha0; exact ints_ref _ _ refIn
  have nb1 : b0 ≠ a1 := fun e => by rw [e, ha1] at hb0; cases hb0; exact ints_ref _ _ refIn
  have n21 : a2 ≠ a1 := fun e => by rw [e, ha1] at ha2; cases ha2; exact ints_ref _ _ refIn
  have na0 : a0 ≠ a := fun e => by rw [e, ha] at ha0; cases ha0
  have na1 : a1 ≠ a := fun e => by rw [e, ha] at ha1; cases ha1
  have nb : b0 ≠ a := fun e => by rw [e, ha] at hb0; cases hb0
  simp only [runDef, d_law, List.length_cons, List.length_nil, if_true]
  rw [exs_next (ex_assign (v := loom) (h' := h1) (by simp [ev, evL, R.bind, R.ofOpt, updL, upd, cx_F, e1])),
    exs_next (ex_assign (v := kept) (h' := h2) (by simp [ev, evL, R.bind, R.ofOpt, updL, upd, cx_F, e2])),
    exs_next (ex_assign (v := .ref a) (h' := h3) (by simp [ev, evL, R.bind, R.ofOpt, updL, upd, cx_F, e3]))]
  generalize hσ : upd (upd (upd (updL noSto [13] [V.ref 0]) 29 loom) 31 kept) 28 (V.ref a) = σ
  have s29 : σ 29 = some loom := by rw [← hσ]; rfl
  have s31 : σ 31 = some kept := by rw [← hσ]; rfl
  have s28 : σ 28 = some (.ref a) := by rw [← hσ]; rfl
  clear hσ
  rw [exs_next (σ' := σ) (h' := h3) (by
    rw [ex_iteF (h' := h3), exs_nil]
    simp [ev, evL, evB, evC, R.bind, R.ofOpt, s28, s29, s31, kindV, isiK, tyNo, kdNo, ha, truthV, cmpV, q31, q32])]
  -- the parts of what was found are lists
  obtain ⟨σ1, e4, ag1⟩ := for_look (src := ⟨[.ref a0, .ref a1, .ref a2], some (a, .tuple [.ref a0, .ref a1, .ref a2])⟩) (h := h3) (σ := σ) (t := [32]) (body := fun x σ1 h2 => exs (cx defs consts 39) [.ite (.not (.isi (.var 32) .list)) [.ret (.bool false)] []] (upd σ1 32 x) h2) ha [.ref a0, .ref a1, .ref a2] σ (Agr.refl _ _)
    (fun v hv σ' ag => by
      refine ⟨upd σ' 32 v, ?_, ag.upd (by simp)⟩
      rw [exs_next (σ' := upd σ' 32 v) (h' := h3) (by
        rw [ex_iteF (h' := h3), exs_nil]
        simp only [List.mem_cons, List.not_mem_nil, or_false] at hv
        rcases hv with rfl | rfl | rfl <;> simp [ev, R.bind, R.ofOpt, upd, kindV, isiK, tyNo, kdNo, ha0, ha1, ha2, truthV]), exs_nil])
  rw [exs_next (ex_for (evS_tuple (ev_var s28) ha) e4)]
  have s29 : σ1 29 = some loom := by rw [ag1 29 (by simp)]; exact s29
  have s31 : σ1 31 = some kept := by rw [ag1 31 (by simp)]; exact s31
  have s28 : σ1 28 = some (.ref a) := by rw [ag1 28 (by simp)]; exact s28
  clear ag1 e4
  -- what was found is changed
  have x0 : (th.map V.int).length ≤ big := by simp; unfold big; omega
  rw [exs_next (ex_expr (ev_append (a := a0) (ev_subL (ev_var s28) (ev_int 0) (.inr ha) (by simp [big]) (Int.le_refl 0) rfl) ha0 (ev_int 0) ha0 x0))]
  have t4 := set_ne (o' := O.list (th.map V.int ++ [V.int 0])) ha na0
  have u4 := set_ne (o' := O.list (th.map V.int ++ [V.int 0])) ha1 n01
  have b4 : IsL (h3.set a0 (O.list (th.map V.int ++ [V.int 0]))) b0 13 := IsL.set ⟨_, hb0, by simpa using bl⟩ (by simp; omega) (by decide)
  have c4 : IsL (h3.set a0 (O.list (th.map V.int ++ [V.int 0]))) a2 13 := IsL.set ⟨_, ha2, by simpa using o1.2⟩ (by simp; omega) (by decide)
  have f4 : h2 <+: h3.set a0 (O.list (th.map V.int ++ [V.int 0])) := pre_set p3 g0
  generalize h3.set a0 (O.list (th.map V.int ++ [V.int 0])) = h4 at t4 u4 b4 c4 f4
  obtain ⟨us, bu, bul⟩ := b4
  rw [exs_next (ex_expr (ev_append (a := b0) (ev_subL (ev_subL (ev_var s28) (ev_int 1) (.inr t4) (by simp [big]) (by decide) rfl) (ev_int 0) (.inl u4) (by unfold big; omega) (Int.le_refl 0) hw0) bu (ev_int 11) bu (by unfold big; omega)))]
  have t5 := set_ne (o' := O.list (us ++ [V.int 11])) t4 nb
  have u5 := set_ne (o' := O.list (us ++ [V.int 11])) u4 nb1
  have c5 : IsL (h4.set b0 (O.list (us ++ [V.int 11]))) a2 14 := IsL.set c4 (by simp; omega) (by decide)
  have f5 : h2 <+: h4.set b0 (O.list (us ++ [V.int 11])) := pre_set f4 gb
  generalize h4.set b0 (O.list (us ++ [V.int 11])) = h5 at t5 u5 c5 f5
  have p6 : h5 <+: h5 ++ [O.list []] := List.prefix_append _ _
  rw [exs_next (ex_expr (ev_append (a := a1) (h1 := h5) (h2 := h5 ++ [O.list []]) (v := .ref h5.length) (ev_subL (ev_var s28) (ev_int 1) (.inr t5) (by simp [big]) (by decide) rfl) u5 (by simp [ev, evL, R.bind, Mine.alloc, big]) (pre_get p6 u5) (by unfold big; omega)))]
  have t7 := set_ne (o' := O.list (ws ++ [V.ref h5.length])) (pre_get p6 t5) na1
  have c7 : IsL ((h5 ++ [O.list []]).set a1 (O.list (ws ++ [V.ref h5.length]))) a2 14 := IsL.set c5.app (by simp; omega) (by decide)
  have f7 : h2 <+: (h5 ++ [O.list []]).set a1 (O.list (ws ++ [V.ref h5.length])) := pre_set (f5.trans p6) g1
  generalize (h5 ++ [O.list []]).set a1 (O.list (ws ++ [V.ref h5.length])) = h7 at t7 c7 f7
  obtain ⟨us', cu, cul⟩ := c7
  rw [exs_next (ex_expr (ev_append (a := a2) (ev_subL (ev_var s28) (ev_int 2) (.inr t7) (by simp [big]) (by decide) rfl) cu (ev_int 0) cu (by unfold big; omega)))]
  have f8 : h2 <+: h7.set a2 (O.list (us' ++ [V.int 0])) := pre_set f7 g2
  generalize h7.set a2 (O.list (us' ++ [V.int 0])) = h8 at f8
  clear t4 u4 c4 t5 u5 c5 t7 cu bu f4 f5 f7 p6 ha ha0 ha1 ha2 hb0 m1 m0 m2
  -- the loom is as it was
  have l8 := pre_len f8
  have loom8 := loom2.pre f8 (Nat.le_refl _) (Nat.le_refl _) l8
  have kept8 := kept2.pre f8 (Nat.le_refl _) (Nat.le_refl _) l8
  have q81 : eqV h8 loom kept = some true := ne_same loom8 kept8 (by omega) ll
  obtain ⟨fw, h9, e9, p9, r9⟩ := f_needLoom 34 loom8 (Nat.le_refl _) L
  have l9 := pre_len p9
  have q91 : eqV h9 fw kept = some true := ne_same r9 (kept8.pre p9 (Nat.le_refl _) (Nat.le_refl _) l9) (by omega) ll
  rw [exs_next (σ' := σ1) (h' := h9) (by
    rw [ex_iteF (h' := h9), exs_nil]
    simp [ev, evL, evB, evC, R.bind, R.ofOpt, s29, s31, truthV, cmpV, q81, q91, cx_F, e9])]
  have loom9 := loom8.pre p9 (Nat.le_refl _) (Nat.le_refl _) l9
  have kept9 := kept8.pre p9 (Nat.le_refl _) (Nat.le_refl _) l9
  clear r9 e9 q81 q91
  -- the cloth that is due
  have loom9' := loom9
  obtain ⟨A, us9, rfl, _, _, hA, rl9⟩ := loom9'
  obtain ⟨u0, _, rfl, k0, u1, _, rfl, k1, u2, _, rfl, k2, hnil⟩ := rl9
  obtain rfl : _ = [] := hnil
  obtain ⟨c0, _, rfl, _, _, hc0, m0⟩ := k0
  obtain rfl := RdL.ints_.mp m0
  obtain ⟨c1, ws, rfl, _, _, hc1, m1⟩ := k1
  obtain ⟨c2, _, rfl, _, _, hc2, m2⟩ := k2
  obtain rfl := RdL.ints_.mp m2
  have wl : ws.length = ti.length := by rw [m1.length, List.length_map]
  rw [exs_next (ex_assign (v := .ref h9.length) (h' := h9 ++ [O.list []]) (by simp [ev, evL, R.bind, Mine.alloc, big]))]
  generalize hσ : upd σ1 33 (V.ref h9.length) = σ2
  have s29 : σ2 29 = some (.ref A) := by rw [← hσ]; exact s29
  have s31 : σ2 31 = some kept := by rw [← hσ]; exact s31
  have s33 : σ2 33 = some (.ref h9.length) := by rw [← hσ]; rfl
  clear hσ
  obtain ⟨σ3, h10, rows, e10, p10, hrows, rrows, ag3⟩ := for_build (src := ⟨tr.map V.int, some (c2, .list (tr.map V.int))⟩) (body := fun x σ1 h2 => exs (cx defs consts 39) [.assign 35 (.list []), .for 27 (.val (.sub (.var 29) (.int 0))) [.expr (.meth .append (.var 35) [(.ite (.cmp (.var 27) [.In] [(.sub (.sub (.var 29) (.int 1)) (.var 34))]) (.int 1) (.int 0))])], .expr (.meth .append (.var 33) [(.var 35)])] (upd σ1 34 x) h2)
    (σ := σ2) (hp := h9) (h := h9 ++ [O.list []]) (r := h9.length) (t := [34, 35, 27]) (g := fun t : Int => iL (th.map fun s => if s ∈ (ti[t.toNat]?).getD [] then 1 else 0)) (intPairs tr) (fun h hp => pre_get hp hc2) (Nat.le_refl _)
    (fun q hq σ' h us ag p hu lu => by
      obtain ⟨hm, hq⟩ := intPairs_mem hq
      have hm := L.r2 _ hm
      have hk : q.2.toNat < ti.length := by omega
      obtain ⟨w', hw', rw'⟩ := m1.at (i := q.2.toNat) (d := iL ti[q.2.toNat]) (by rw [List.getElem?_map, List.getElem?_eq_getElem hk]; rfl)
      have x29 : σ' 29 = some (.ref A) := by rw [ag 29 (by simp)]; exact s29
      have x33 : σ' 33 = some (.ref h9.length) := by rw [ag 33 (by simp)]; exact s33
      rw [exs_next (ex_assign (v := .ref h.length) (h' := h ++ [O.list []]) (by simp [ev, evL, R.bind, Mine.alloc, big]))]
      generalize hσ : upd (upd σ' 34 q.1) 35 (V.ref h.length) = σ4
      have y29 : σ4 29 = some (.ref A) := by rw [← hσ]; exact x29
      have y33 : σ4 33 = some (.ref h9.length) := by rw [← hσ]; exact x33
      have y34 : σ4 34 = some (.int q.2) := by rw [← hσ, ← hq]; rfl
      have y35 : σ4 35 = some (.ref h.length) := by rw [← hσ]; rfl
      have ag4 : Agr [34, 35, 27] σ2 σ4 := by rw [← hσ]; exact (ag.upd (by simp)).upd (by simp)
      clear hσ
      obtain ⟨σ5, h11, rw11, e11, p11, hr11, rr11, ag5⟩ := for_build (src := ⟨th.map V.int, some (c0, .list (th.map V.int))⟩) (body := fun x σ1 h2 => exs (cx defs consts 39) [.expr (.meth .append (.var 35) [(.ite (.cmp (.var 27) [.In] [(.sub (.sub (.var 29) (.int 1)) (.var 34))]) (.int 1) (.int 0))])] (upd σ1 27 x) h2)
        (σ := σ4) (hp := h) (h := h ++ [O.list []]) (r := h.length) (t := [27]) (g := fun s : Int => .int (if s ∈ (ti[q.2.toNat]?).getD [] then 1 else 0)) (intPairs th) (fun h' hp => pre_get (p.trans hp) hc0) (Nat.le_refl _)
        (fun q' hq' σ5 h5 us5 ag5 p5 hu5 lu5 => by
          obtain ⟨_, hq'⟩ := intPairs_mem hq'
          have z29 : (upd σ5 27 q'.1) 29 = some (.ref A) := by rw [← y29]; exact ag5 29 (by simp)
          have z34 : (upd σ5 27 q'.1) 34 = some (.int q.2) := by rw [← y34]; exact ag5 34 (by simp)
          have z35 : (upd σ5 27 q'.1) 35 = some (.ref h.length) := by rw [← y35]; exact ag5 35 (by simp)
          have z27 : (upd σ5 27 q'.1) 27 = some (.int q'.2) := by rw [← hq']; rfl
          have pp := p.trans p5
          have hin := inV_iL (s := q'.2) (rw'.pre pp (Nat.le_refl _) (Nat.le_refl _) (Nat.le_refl _))
          have esub := ev_subL (C := cx defs consts 39) (x := .sub (.var 29) (.int 1)) (y := .var 34) (ev_subL (ev_var z29) (ev_int 1) (.inr (pre_get pp hA)) (by simp [big]) (by decide) rfl) (ev_var z34) (.inl (pre_get pp hc1)) (by unfold big; omega) hm.1 hw'
          have ecmp : ev (cx defs consts 39) (.cmp (.var 27) [.In] [(.sub (.sub (.var 29) (.int 1)) (.var 34))]) (upd σ5 27 q'.1) h5 = .ok (.bool (decide (q'.2 ∈ ti[q.2.toNat]))) h5 := by
            rw [ev, ev_var z27]; simp only [R.bind, evC, esub, cmpV, hin]
          have eite : ev (cx defs consts 39) (.ite (.cmp (.var 27) [.In] [(.sub (.sub (.var 29) (.int 1)) (.var 34))]) (.int 1) (.int 0)) (upd σ5 27 q'.1) h5 = .ok (.int (if q'.2 ∈ (ti[q.2.toNat]?).getD [] then 1 else 0)) h5 := by
            rw [ev, ecmp, List.getElem?_eq_getElem hk]
            by_cases hd : q'.2 ∈ ti[q.2.toNat] <;> simp [R.bind, truthV, hd, ev]
          refine ⟨upd σ5 27 q'.1, _, h5, ?_, List.prefix_refl _, ag5.upd (by simp), rfl⟩
          rw [exs_next (ex_expr (ev_append (ev_var z35) hu5 eite hu5 (by simp [intPairs] at lu5; unfold big; omega))), exs_nil])
        (List.prefix_append _ _) (by simp)
      rw [intPairs_1] at e11
      rw [intPairs_2] at rr11
      rw [exs_next (ex_for (evS_list (h1 := h ++ [O.list []]) (ev_subL (ev_var y29) (ev_int 0) (.inr (pre_get (p.trans (List.prefix_append _ _)) hA)) (by simp [big]) (Int.le_refl 0) rfl) (pre_get (p.trans (List.prefix_append _ _)) hc0)) e11)]
      have lt11 := (List.getElem?_eq_some_iff.mp hr11).1
      have lth := (List.getElem?_eq_some_iff.mp hu).1
      refine ⟨σ5, .ref h.length, h11, ?_, p11, ag4.trans (ag5.wide (by simp)), ⟨_, _, rfl, by omega, lt11, hr11, ?_⟩⟩
      · rw [exs_next (ex_expr (ev_append (ev_var (by rw [ag5 33 (by simp)]; exact y33)) (pre_get p11 hu) (ev_var (by rw [ag5 35 (by simp)]; exact y35)) (pre_get p11 hu) (by simp [intPairs] at lu; unfold big; omega))), exs_nil]
      · have := RdL.same (M' := h9.length + 1) (N' := h11.length) (Same.refl _ _ _) (by omega) (Nat.le_refl _) _ _ rr11
        simpa [List.map_map, Function.comp_def] using this)
    (List.prefix_append _ _) (by simp)
  rw [intPairs_1] at e10
  rw [intPairs_2] at rrows
  rw [exs_next (ex_for (evS_list (h1 := h9 ++ [O.list []]) (ev_subL (ev_var s29) (ev_int 2) (.inr (pre_get (List.prefix_append _ _) hA)) (by simp [big]) (by decide) rfl) (pre_get (List.prefix_append _ _) hc2)) e10)]
  have l10 := pre_len p10
  have lt10 := (List.getElem?_eq_some_iff.mp hrows).1
  have due10 : Rd 0 h10.length h10 (iLL (clothOf th ti tr)) (.ref h9.length) := ⟨_, _, rfl, Nat.zero_le _, lt10, hrows, by
    have := RdL.same (M' := 0) (N' := h10.length) (Same.refl _ _ _) (Nat.zero_le _) (Nat.le_refl _) _ _ rrows
    simpa [clothOf, List.map_map, Function.comp_def] using this⟩
  have loom10 := loom9.pre p10 (Nat.le_refl _) (Nat.le_refl _) l10
  have kept10 := kept9.pre p10 (Nat.le_refl _) (Nat.le_refl _) l10
  have s29 : σ3 29 = some (.ref A) := by rw [ag3 29 (by simp)]; exact s29
  have s31 : σ3 31 = some kept := by rw [ag3 31 (by simp)]; exact s31
  have s33 : σ3 33 = some (.ref h9.length) := by rw [ag3 33 (by simp)]; exact s33
  clear e10 ag3 rrows hrows m1 m0 m2 hA hc0 hc1 hc2
  -- the cloth that is told
  have dc := dep_iLL (clothOf th ti tr)
  have lc := lay_iLL (clothOf th ti tr)
  obtain ⟨told, h11, e11, p11, r11⟩ := f_woven 33 loom10 (Nat.le_refl _) L
  have l11 := pre_len p11
  have q1 : eqV h11 told (.ref h9.length) = some true := ne_same r11 (due10.pre p11 (Nat.le_refl _) (Nat.le_refl _) l11) (by omega) lc
  have q2 : eqV h11 (.ref A) kept = some true := ne_same (loom10.pre p11 (Nat.le_refl _) (Nat.le_refl _) l11) (kept10.pre p11 (Nat.le_refl _) (Nat.le_refl _) l11) (by omega) ll
  rw [exs_next (ex_assign (v := told) (h' := h11) (by simp [ev, evL, R.bind, R.ofOpt, s29, cx_F, e11]))]
  obtain ⟨t, rs, rfl, gt, ltt, ht, rr⟩ := r11
  generalize hσ : upd σ3 36 (V.ref t) = σ4
  have s29 : σ4 29 = some (.ref A) := by rw [← hσ]; exact s29
  have s31 : σ4 31 = some kept := by rw [← hσ]; exact s31
  have s33 : σ4 33 = some (.ref h9.length) := by rw [← hσ]; exact s33
  have s36 : σ4 36 = some (.ref t) := by rw [← hσ]; rfl
  clear hσ
  rw [exs_next (σ' := σ4) (h' := h11) (by
    rw [ex_iteF (h' := h11), exs_nil]
    simp [ev, evL, evB, evC, R.bind, R.ofOpt, s29, s31, s33, s36, kindV, isiK, tyNo, kdNo, ht, truthV, cmpV, q1, q2])]
  -- what is told is changed
  have rl : rs.length = tr.length := by rw [rr.length, List.length_map]; simp [clothOf]
  have ps1 : (rs.map fun v => (v, v)).map (·.1) = rs := by rw [List.map_map]; exact List.map_id'' (fun _ => rfl) rs
  have ps2 : (rs.map fun v => (v, v)).map (·.2) = rs := by rw [List.map_map]; exact List.map_id'' (fun _ => rfl) rs
  obtain ⟨σ5, h12, e12, i12⟩ := forR_inv (src := ⟨rs, some (t, .list rs)⟩) (body := fun x σ1 h2 => exs (cx defs consts 39) [.ite (.bop .Or [(.not (.isi (.var 35) .list)), (.cmp (.bi .len [(.comp (.var 37) 37 (.val (.var 35)) [(.not (.call 10 [(.var 37)]))])]) [.Gt] [(.int 0)])]) [.ret (.bool false)] [], .expr (.meth .append (.var 35) [(.int 1)])] (upd σ1 35 x) h2)
    (fun (as : List V) σ' h => Same 0 h10.length h11 h ∧ h10.length ≤ h.length ∧ h[t]? = some (O.list rs) ∧ (∀ v ∈ rs, ∃ (b : Nat) (ys : List Int), v = V.ref b ∧ h10.length ≤ b ∧ h[b]? = some (O.list (ys.map V.int)) ∧ ys.length + as.length ≤ 100) ∧ Agr [35] σ4 σ')
    (fun _ _ _ i => i.2.2.1) (rs.map fun v => (v, v)) σ4 h11
    (fun q hq as σ' h i => by
      obtain ⟨i1, i2, i3, i4, i5⟩ := i
      obtain ⟨v, hv, rfl⟩ := List.mem_map.mp hq
      obtain ⟨b, ys, rfl, jb, hb, jl⟩ := i4 v hv
      have yb : ys.length ≤ big := by unfold big; omega
      have nbt : b ≠ t := fun e => by rw [e, i3] at hb; cases hb; exact ints_ref _ _ hv
      obtain ⟨w, h', e', p', r'⟩ := comp_over (C := cx defs consts 39) (σ := upd σ' 35 (.ref b)) (h := h) (elt := .var 37) (i := 37) (it := .val (.var 35)) (ifs := [(.not (.call 10 [(.var 37)]))])
        0 (intPairs ys) (fun _ => false) .int (evS_list (ev_var rfl) hb) (by rw [intPairs_1]) (by simpa [intPairs] using yb) hb (Nat.zero_le _)
        (fun q' hq' h6 p6 => by
          obtain ⟨_, hq'⟩ := intPairs_mem hq'
          refine ⟨h6, ?_, List.prefix_refl _⟩
          simp [evT, testsR, ev, evL, R.bind, R.ofOpt, upd, hq', cx_F, f_isint, truthV])
        (fun q' _ hf => by cases hf)
      rw [List.filter_eq_nil_iff.mpr (by simp), List.map_nil] at r'
      obtain ⟨c, _, rfl, _, _, hc, hnil⟩ := r'
      obtain rfl : _ = [] := hnil
      have hb' := pre_get p' hb
      have ltb := (List.getElem?_eq_some_iff.mp hb').1
      refine ⟨upd σ' 35 (.ref b), h'.set b (O.list (ys.map V.int ++ [V.int 1])), ?_, ?_, ?_, ?_, ?_, i5.upd (by simp)⟩
      · rw [exs_next (σ' := upd σ' 35 (.ref b)) (h' := h') (by
          rw [ex_iteF (h' := h'), exs_nil]
          have eb : ev (cx defs consts 39) (.bi .len [(.comp (.var 37) 37 (.val (.var 35)) [(.not (.call 10 [(.var 37)]))])]) (upd σ' 35 (.ref b)) h = .ok (.int 0) h' := by
            rw [ev]; simp only [evL, e', R.bind, biV, seqAt, hc]; simp
          have eg : ev (cx defs consts 39) (.cmp (.bi .len [(.comp (.var 37) 37 (.val (.var 35)) [(.not (.call 10 [(.var 37)]))])]) [.Gt] [(.int 0)]) (upd σ' 35 (.ref b)) h = .ok (.bool false) h' := by
            rw [ev, eb]; simp [R.bind, evC, ev, cmpV]
          have en : ev (cx defs consts 39) (.not (.isi (.var 35) .list)) (upd σ' 35 (.ref b)) h = .ok (.bool false) h := by
            simp [ev, R.bind, R.ofOpt, upd, kindV, isiK, tyNo, kdNo, hb, truthV]
          rw [ev, evB, en]
          simp [R.bind, truthV, evB, eg])]
        rw [exs_next (ex_expr (ev_append (ev_var rfl) hb' (ev_int 1) hb' (by simpa using yb))), exs_nil]
      · exact i1.trans ((Same.pre p' i2).trans (Same.set (.inr jb)))
      · have := pre_len p'; rw [List.length_set]; omega
      · exact set_ne (pre_get p' i3) nbt
      · intro v' hv'
        obtain ⟨b', ys', rfl, jb', hb1, jl'⟩ := i4 v' hv'
        simp only [List.length_cons] at jl jl'
        by_cases e : b = b'
        · subst e
          exact ⟨b, ys ++ [1], rfl, jb', by rw [List.getElem?_set_self ltb]; simp, by simp; omega⟩
        · exact ⟨b', ys', rfl, jb', set_ne (pre_get p' hb1) e, by omega⟩)
    (by
      rw [ps2]
      refine ⟨Same.refl _ _ _, l11, ht, fun v hv => ?_, Agr.refl _ _⟩
      obtain ⟨d, hd, rd'⟩ := rr.mem hv
      obtain ⟨row, hrow, rfl⟩ := List.mem_map.mp hd
      obtain ⟨b, _, rfl, q1, q2, q3, q4⟩ := rd'
      obtain rfl := RdL.ints_.mp q4
      refine ⟨b, row, rfl, q1, q3, ?_⟩
      obtain ⟨x, _, rfl⟩ := List.mem_map.mp hrow
      simp; omega)
  rw [ps1] at e12
  obtain ⟨i1, i2, i3, i4, ag5⟩ := i12
  rw [exs_next (ex_for (evS_list (ev_var s36) ht) e12)]
  rw [exs_next (ex_expr (ev_clear (ev_var (by rw [ag5 36 (by simp)]; exact s36)) i3 (by unfold big; omega)))]
  have i5 : Same 0 h10.length h11 (h12.set t (O.list [])) := i1.trans (Same.set (.inr gt))
  have i6 : h10.length ≤ (h12.set t (O.list [])).length := by rw [List.length_set]; exact i2
  generalize h12.set t (O.list []) = h13 at i5 i6
  have s10 : Same 0 h10.length h10 h13 := (Same.pre p11 (Nat.le_refl _)).trans i5
  have loom13 : Rd 0 h13.length h13 (lD th ti tr) (.ref A) := Rd.same s10 (Nat.le_refl _) i6 _ _ loom10
  have kept13 : Rd 0 h13.length h13 (lD th ti tr) kept := Rd.same s10 (Nat.le_refl _) i6 _ _ kept10
  have due13 : Rd 0 h13.length h13 (iLL (clothOf th ti tr)) (.ref h9.length) := Rd.same s10 (Nat.le_refl _) i6 _ _ due10
  obtain ⟨told', h14, e14, p14, r14⟩ := f_woven 33 loom13 (Nat.le_refl _) L
  have l14 := pre_len p14
  have q1 : eqV h14 told' (.ref h9.length) = some true := ne_same r14 (due13.pre p14 (Nat.le_refl _) (Nat.le_refl _) l14) (by omega) lc
  have q2 : eqV h14 (.ref A) kept = some true := ne_same (loom13.pre p14 (Nat.le_refl _) (Nat.le_refl _) l14) (kept13.pre p14 (Nat.le_refl _) (Nat.le_refl _) l14) (by omega) ll
  have s29 : σ5 29 = some (.ref A) := by rw [ag5 29 (by simp)]; exact s29
  have s31 : σ5 31 = some kept := by rw [ag5 31 (by simp)]; exact s31
  have s33 : σ5 33 = some (.ref h9.length) := by rw [ag5 33 (by simp)]; exact s33
  refine ⟨h14, ?_⟩
  rw [exs_ret (v := .bool true) (h' := h14) (ex_retv (by
    simp [ev, evL, evB, evC, R.bind, R.ofOpt, s29, s31, s33, truthV, cmpV, cx_F, e14, q1, q2]))]
end Mine

namespace Mine
open PySem
noncomputable def tab06 : Tab := ⟨vars, [(some (Str.ofString "is_among")), (some (Str.ofString "are_numbers")), (some (Str.ofString "is_tie")), (some (Str.ofString "is_loom")), (some (Str.ofString "need_loom")), (some (Str.ofString "woven")), (some (Str.ofString "_law_cell_at")), (some (Str.ofString "_law_drawn")), (some (Str.ofString "_law_size")), (some (Str.ofString "_law_loom_by")), (some (Str.ofString "_law_is_int")), (some (Str.ofString "_law_copy")), (some (Str.ofString "law")), none, none, none, none, none, none, none, none, none, none, none, none, none, none, none, none, none, none, none, none, none, none, none, none, none, none, none, none, none, none, none, none, none, none, none, none, none, none, none, none, none, none, none, none, none, none, none, none, none, none, none, none, none, none, none, none, none, none, none, none, none, none, none, none, none, none, none, none, none, none, none, none, none, none, none, none, none, none, none, none, none, none, none, none, none, none, none, none], [(Str.ofString "MOST")], [(Str.ofString "ClothError"), (Str.ofString "BadLoom"), (Str.ofString "BadCloth"), (Str.ofString "BadThread"), (Str.ofString "BadCount"), (Str.ofString "BadText")]⟩
noncomputable def pack06 : Pack := ⟨tab06, defs, consts⟩
end Mine
open PySem PySem.W PyProof.Rows Mine
set_option maxRecDepth 100000 in
set_option maxHeartbeats 8000000 in
theorem PySem.Challenge.cw_uf040034_06_holds : PySem.Challenge.rw_uf040034_06.Holds := by
  w_on; o_law; o_head Hook.none
  case hw => w_witness2
  intro w s₀ s₁ mg mb G Y fa o pm cd doc dV kV ho hd hcd hD hmg hg args vals as hpre hlay hrd hwl hlo
  refine Ground.open G ?_
  intro T B D TE TW
  wrow_args hpre hlay hrd hwl hlo
  rename_i xs _ _ _ _ _ _ _ _ _ _ hL _ _ _ hI _ hlen _
  obtain ⟨H', hrun⟩ := law06 xs (by omega)
  refine law_ends T (P := pack06) (by decide +kernel) (i := 12) (nm := "law") rfl hmg (by decide) hL hI hg hrun ?_ ?_
  · intro cls; rfl
  · wrow_post
