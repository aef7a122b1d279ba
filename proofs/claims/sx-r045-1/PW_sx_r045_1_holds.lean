import PyProof.Rows.All
import Wide.All
import OpenK.AllK
import Wide.FinOn
import PySem.Challenge.RW_sx_r045_1
set_option Elab.async false
set_option compiler.extract_closed false
set_option genSizeOf false
set_option linter.unusedVariables false
namespace Mine
inductive Ex where
  | n (k : Nat)
  | v (i : Nat)
  | a (e f : Ex)
  | m (k : Nat) (e : Ex)
  | t (e : Ex) (k : Nat)
noncomputable def at0 : List Nat → Nat → Nat
  | [], _ => 0
  | x :: _, 0 => x
  | _ :: c, i + 1 => at0 c i
noncomputable def Ex.den (c : List Nat) : Ex → Nat
  | .n k => k
  | .v i => at0 c i
  | .a e f => e.den c + f.den c
  | .m k e => k * e.den c
  | .t e k => e.den c * k
noncomputable def dot : List Nat → List Nat → Nat
  | [], _ => 0
  | _ :: _, [] => 0
  | a :: c, b :: p => a * b + dot c p
noncomputable def pAdd : List Nat → List Nat → List Nat
  | [], q => q
  | a :: p, [] => a :: p
  | a :: p, b :: q => (a + b) :: pAdd p q
noncomputable def pMul (k : Nat) : List Nat → List Nat
  | [] => []
  | a :: p => (k * a) :: pMul k p
noncomputable def pVar : Nat → List Nat
  | 0 => [1]
  | i + 1 => 0 :: pVar i
noncomputable def pLe : List Nat → List Nat → Bool
  | [], _ => true
  | a :: p, [] => Nat.beq a 0 && pLe p []
  | a :: p, b :: q => Nat.ble a b && pLe p q
noncomputable def Ex.pol : Ex → List Nat
  | .n k => [k]
  | .v i => 0 :: pVar i
  | .a e f => pAdd e.pol f.pol
  | .m k e => pMul k e.pol
  | .t e k => pMul k e.pol
theorem dot_nil : ∀ c, dot c [] = 0
  | [] => rfl
  | _ :: _ => rfl
theorem dot_add : ∀ c p q, dot c (pAdd p q) = dot c p + dot c q
  | [], _, _ => rfl
  | a :: c, [], q => (Nat.zero_add _).symm
  | a :: c, x :: p, [] => rfl
  | a :: c, x :: p, y :: q => by
    show a * (x + y) + dot c (pAdd p q) = (a * x + dot c p) + (a * y + dot c q)
    rw [dot_add c p q, Nat.mul_add]; ac_rfl
theorem dot_mul (k : Nat) : ∀ c p, dot c (pMul k p) = k * dot c p
  | [], _ => rfl
  | a :: c, [] => rfl
  | a :: c, x :: p => by
    show a * (k * x) + dot c (pMul k p) = k * (a * x + dot c p)
    rw [dot_mul k c p, Nat.mul_add]; ac_rfl
theorem dot_var : ∀ c i, dot c (pVar i) = at0 c i
  | [], _ => rfl
  | a :: c, 0 => by show a * 1 + dot c [] = a; rw [dot_nil, Nat.mul_one]; rfl
  | a :: c, i + 1 => by show a * 0 + dot c (pVar i) = at0 c i; rw [dot_var c i, Nat.mul_zero, Nat.zero_add]
theorem dot_le : ∀ c p q, pLe p q = true → dot c p ≤ dot c q
  | [], _, _, _ => Nat.le_refl _
  | a :: c, [], q, _ => Nat.zero_le _
  | a :: c, x :: p, [], h => by
    have h := Bool.and_eq_true_iff.mp h
    have h1 : x = 0 := Nat.eq_of_beq_eq_true h.1
    have h2 := dot_le c p [] h.2
    rw [dot_nil] at h2
    show a * x + dot c p ≤ 0
    rw [h1, Nat.mul_zero, Nat.zero_add]
    exact h2
  | a :: c, x :: p, y :: q, h => by
    have h := Bool.and_eq_true_iff.mp h
    exact Nat.add_le_add (Nat.mul_le_mul_left a (Nat.le_of_ble_eq_true h.1)) (dot_le c p q h.2)
theorem Ex.pol_den (c : List Nat) : ∀ e : Ex, dot (1 :: c) e.pol = e.den c
  | .n k => by show 1 * k + dot c [] = k; rw [dot_nil, Nat.one_mul]; rfl
  | .v i => by show 1 * 0 + dot c (pVar i) = at0 c i; rw [dot_var, Nat.mul_zero, Nat.zero_add]
  | .a e f => by show dot (1 :: c) (pAdd e.pol f.pol) = _; rw [dot_add, e.pol_den, f.pol_den]; rfl
  | .m k e => by show dot (1 :: c) (pMul k e.pol) = _; rw [dot_mul, e.pol_den]; rfl
  | .t e k => by show dot (1 :: c) (pMul k e.pol) = e.den c * k; rw [dot_mul, e.pol_den, Nat.mul_comm]
inductive Cn where
  | l (k : Nat) (e f : Ex)
  | s (k : Nat) (e f : Ex)
  | q (k : Nat) (e f : Ex)
  | r (k : Nat) (e f : Ex)
noncomputable def Cn.den (c : List Nat) : Cn → Prop
  | .l _ e f => e.den c ≤ f.den c
  | .s _ e f => e.den c < f.den c
  | .q _ e f => e.den c = f.den c
  | .r _ e f => e.den c = f.den c
noncomputable def Cn.L : Cn → List Nat
  | .l k e _ => pMul k e.pol
  | .s k e _ => pMul k (pAdd [1] e.pol)
  | .q k e _ => pMul k e.pol
  | .r k _ f => pMul k f.pol
noncomputable def Cn.R : Cn → List Nat
  | .l k _ f => pMul k f.pol
  | .s k _ f => pMul k f.pol
  | .q k _ f => pMul k f.pol
  | .r k e _ => pMul k e.pol
theorem Cn.le {c : List Nat} : ∀ {x : Cn}, x.den c → dot (1 :: c) x.L ≤ dot (1 :: c) x.R
  | .l k e f, h => by
    show dot (1 :: c) (pMul k e.pol) ≤ dot (1 :: c) (pMul k f.pol)
    rw [dot_mul, dot_mul, e.pol_den, f.pol_den]; exact Nat.mul_le_mul_left k h
  | .s k e f, h => by
    show dot (1 :: c) (pMul k (pAdd [1] e.pol)) ≤ dot (1 :: c) (pMul k f.pol)
    rw [dot_mul, dot_mul, dot_add, e.pol_den, f.pol_den, Nat.add_comm]
    have h1 : dot (1 :: c) [1] = 1 := Ex.pol_den c (.n 1)
    rw [h1]; exact Nat.mul_le_mul_left k h
  | .q k e f, h => by
    show dot (1 :: c) (pMul k e.pol) ≤ dot (1 :: c) (pMul k f.pol)
    rw [dot_mul, dot_mul, e.pol_den, f.pol_den]; exact Nat.mul_le_mul_left k (Nat.le_of_eq h)
  | .r k e f, h => by
    show dot (1 :: c) (pMul k f.pol) ≤ dot (1 :: c) (pMul k e.pol)
    rw [dot_mul, dot_mul, e.pol_den, f.pol_den]; exact Nat.mul_le_mul_left k (Nat.le_of_eq h.symm)
noncomputable def Imp (c : List Nat) (P : Prop) : List Cn → Prop
  | [] => P
  | x :: xs => x.den c → Imp c P xs
noncomputable def sumL (p : List Nat) : List Cn → List Nat
  | [] => p
  | x :: xs => sumL (pAdd x.L p) xs
noncomputable def sumR (p : List Nat) : List Cn → List Nat
  | [] => p
  | x :: xs => sumR (pAdd x.R p) xs
noncomputable def chk (p q : List Nat) (cs : List Cn) : Bool := pLe (pAdd [1] (sumR q cs)) (sumL p cs)
theorem imp_of {c : List Nat} {P : Prop} : ∀ (cs : List Cn) (p q : List Nat), pLe (pAdd [1] (sumR q cs)) (sumL p cs) = true → (dot (1 :: c) q < dot (1 :: c) p → P) → Imp c P cs
  | [], p, q, h, k => k (by
      have h1 := dot_le (1 :: c) _ _ h
      rw [dot_add] at h1
      have h2 : dot (1 :: c) [1] = 1 := Ex.pol_den c (.n 1)
      rw [h2, Nat.add_comm] at h1
      exact h1)
  | x :: xs, p, q, h, k => fun hx => imp_of xs (pAdd x.L p) (pAdd x.R q) h (fun hlt => k (by
      rw [dot_add, dot_add] at hlt
      exact Nat.lt_of_add_lt_add_left (Nat.lt_of_lt_of_le hlt (Nat.add_le_add_right (Cn.le hx) _))))
theorem linL (c : List Nat) (cs : List Cn) (k : Nat) (A B : Ex) (h : chk (pMul k (pAdd [1] B.pol)) (pMul k A.pol) cs = true) : Imp c (A.den c ≤ B.den c) cs :=
  imp_of cs _ _ h (fun hlt => by
    rw [dot_mul, dot_mul, dot_add, A.pol_den, B.pol_den] at hlt
    have h2 : dot (1 :: c) [1] = 1 := Ex.pol_den c (.n 1)
    rw [h2, Nat.add_comm] at hlt
    exact Nat.le_of_lt_succ (Nat.lt_of_mul_lt_mul_left hlt))
theorem linS (c : List Nat) (cs : List Cn) (k : Nat) (A B : Ex) (h : chk (pMul k B.pol) (pMul k A.pol) cs = true) : Imp c (A.den c < B.den c) cs :=
  imp_of cs _ _ h (fun hlt => by
    rw [dot_mul, dot_mul, A.pol_den, B.pol_den] at hlt
    exact Nat.lt_of_mul_lt_mul_left hlt)
noncomputable def Cn.fl : Cn → Cn
  | .l k e f => .l k e f
  | .s k e f => .s k e f
  | .q k e f => .r k e f
  | .r k e f => .q k e f
noncomputable def flAll : List Cn → List Cn
  | [] => []
  | x :: xs => x.fl :: flAll xs
theorem Cn.fl_den {c : List Nat} : ∀ {x : Cn}, x.den c → x.fl.den c
  | .l _ _ _, h => h
  | .s _ _ _, h => h
  | .q _ _ _, h => h
  | .r _ _ _, h => h
theorem imp_both {c : List Nat} {a b : Nat} : ∀ (cs : List Cn), Imp c (a ≤ b) cs → Imp c (b ≤ a) (flAll cs) → Imp c (a = b) cs
  | [], h, k => Nat.le_antisymm h k
  | _ :: xs, h, k => fun hx => imp_both xs (h hx) (k (Cn.fl_den hx))
theorem linE (c : List Nat) (cs : List Cn) (k : Nat) (A B : Ex) (h : chk (pMul k (pAdd [1] B.pol)) (pMul k A.pol) cs = true) (h' : chk (pMul k (pAdd [1] A.pol)) (pMul k B.pol) (flAll cs) = true) : Imp c (A.den c = B.den c) cs :=
  imp_both cs (linL c cs k A B h) (linL c (flAll cs) k B A h')
theorem linF (c : List Nat) (cs : List Cn) (h : chk [] [] cs = true) : Imp c False cs :=
  imp_of cs _ _ h (fun hlt => absurd hlt (Nat.lt_irrefl _))
theorem four {α : Type} {l : List α} (h : l.length = 4) : ∃ a b c d, l = [a, b, c, d] := match l, h with
  | [a, b, c, d], _ => ⟨a, b, c, d, rfl⟩
theorem noTrue {P : Prop} (h : false = true) : P := nomatch h
theorem ifSome {α : Type} {c : Prop} [Decidable c] {v r : α} (e : (if c then some v else none) = some r) : c ∧ v = r := by
  by_cases h : c
  · rw [if_pos h] at e; injection e with e; exact ⟨h, e⟩
  · rw [if_neg h] at e; cases e
theorem noSome {α : Type} {a : α} {P : Prop} (h : none = some a) : P := nomatch h
theorem i0 (b : Nat) : (0 : Int) ≤ (b : Int) := Int.natCast_nonneg b
theorem iLe {b k : Nat} (h : b ≤ k) : (b : Int) ≤ (k : Int) := Int.ofNat_le.mpr h
theorem iLt {b k : Nat} (h : b < k) : (b : Int) < (k : Int) := Int.ofNat_lt.mpr h
theorem iNe {b : Nat} (h : b ≠ 0) : (b : Int) ≠ 0 := fun e => h (Int.ofNat.inj e)
theorem iSub {a b : Nat} (h : b ≤ a) : (a : Int) - (b : Int) = ((a - b : Nat) : Int) := (Int.ofNat_sub h).symm
theorem lt3 {k : Nat} (h : k < 3) : k = 0 ∨ k = 1 ∨ k = 2 := match k, h with
  | 0, _ => .inl rfl | 1, _ => .inr (.inl rfl) | 2, _ => .inr (.inr rfl)
theorem lt6 {k : Nat} (h : k < 6) : k = 0 ∨ k = 1 ∨ k = 2 ∨ k = 3 ∨ k = 4 ∨ k = 5 := match k, h with
  | 0, _ => .inl rfl | 1, _ => .inr (.inl rfl) | 2, _ => .inr (.inr (.inl rfl)) | 3, _ => .inr (.inr (.inr (.inl rfl))) | 4, _ => .inr (.inr (.inr (.inr (.inl rfl)))) | 5, _ => .inr (.inr (.inr (.inr (.inr rfl))))
theorem lt12 {k : Nat} (h : k < 12) : k = 0 ∨ k = 1 ∨ k = 2 ∨ k = 3 ∨ k = 4 ∨ k = 5 ∨ k = 6 ∨ k = 7 ∨ k = 8 ∨ k = 9 ∨ k = 10 ∨ k = 11 := by
  match k, h with
  | 0, _ => exact .inl rfl
  | 1, _ => exact .inr (.inl rfl)
  | 2, _ => exact .inr (.inr (.inl rfl))
  | 3, _ => exact .inr (.inr (.inr (.inl rfl)))
  | 4, _ => exact .inr (.inr (.inr (.inr (.inl rfl))))
  | 5, _ => exact .inr (.inr (.inr (.inr (.inr (.inl rfl)))))
  | k + 6, h => exact .inr (.inr (.inr (.inr (.inr (.inr ((lt6 (Nat.lt_of_add_lt_add_right (n := 6) h)).imp (congrArg (· + 6)) (Or.imp (congrArg (· + 6)) (Or.imp (congrArg (· + 6)) (Or.imp (congrArg (· + 6)) (Or.imp (congrArg (· + 6)) (congrArg (· + 6))))))))))))
end Mine
namespace Mine
open PySem
inductive PV where
  | none
  | bool (b : Bool)
  | int (i : Int)
  | str (s : Str)
  | bytes (b : List UInt8)
  | tuple (xs : List PV)
  | list (xs : List PV)
  | type (n : String)
noncomputable def eqL (f : PV → PV → Option Bool) : List PV → List PV → Option Bool
  | [], [] => some true
  | a :: r, b :: q => match f a b, eqL f r q with
    | some x, some y => some (x && y)
    | _, _ => Option.none
  | _, _ => some false
noncomputable def eqF : Nat → PV → PV → Option Bool
  | _, .none, .none => some true
  | _, .bool a, .bool b => some (a == b)
  | _, .int a, .int b => some (a == b)
  | _, .str a, .str b => some (a == b)
  | _, .bytes a, .bytes b => some (a == b)
  | n + 1, .tuple a, .tuple b => eqL (eqF n) a b
  | n + 1, .list a, .list b => if a.length = b.length then eqL (eqF n) a b else some false
  | _, _, _ => Option.none
noncomputable def eqP (a b : PV) : Option Bool := eqF 8 a b
inductive Slot where
  | unb
  | val (v : PV)
  | own (xs : List PV)
  | dict (ks : List (List UInt8))
abbrev Loc := List (Str × Slot)
noncomputable def Loc.get (σ : Loc) (x : Str) : Option Slot := σ.lookup x
noncomputable def Loc.set : Loc → Str → Slot → Loc
  | [], _, _ => []
  | (y, s) :: r, x, v => if x == y then (y, v) :: r else (y, s) :: Loc.set r x v
inductive Rs (α : Type) where
  | stuck
  | exc
  | ok (a : α)
noncomputable def Rs.bind {α β : Type} : Rs α → (α → Rs β) → Rs β
  | .stuck, _ => .stuck
  | .exc, _ => .exc
  | .ok a, f => f a
noncomputable def Rs.of {α : Type} : Option α → Rs α
  | none => .stuck
  | some a => .ok a
inductive Outc where
  | next
  | ret (v : PV)
structure Fn where
  params : List Str
  scope : Scope
  body : List Stmt
structure Ctx where
  glob : Str → Option PV
  fns : Str → Option Fn
  exc : Bool
noncomputable def lim : Nat := 16777216
noncomputable def allBytes : List PV → Option (List UInt8)
  | [] => some []
  | .int i :: r => if 0 ≤ i ∧ i < 256 then (allBytes r).map (i.toNat.toUInt8 :: ·) else Option.none
  | _ => Option.none
noncomputable def joinBytes : List PV → Option (List UInt8)
  | [] => some []
  | .bytes b :: r => (joinBytes r).map (b ++ ·)
  | _ => Option.none
noncomputable def binop : Operator → PV → PV → Option PV
  | .Add, .int a, .int b => some (.int (a + b))
  | .Add, .bytes a, .bytes b => if a.length + b.length ≤ lim then some (.bytes (a ++ b)) else Option.none
  | .Add, .list a, .list b => if a.length + b.length ≤ lim then some (.list (a ++ b)) else Option.none
  | .Sub, .int a, .int b => some (.int (a - b))
  | .Mult, .int a, .int b => if a.natAbs < 2 ^ 63 ∨ b.natAbs < 2 ^ 63 then some (.int (a * b)) else Option.none
  | .Mult, .bytes b, .int n => if b ≠ [] ∧ b.length ≤ 16 ∧ 0 ≤ n ∧ n ≤ 1048576 then some (.bytes (List.replicate n.toNat b).flatten) else Option.none
  | .Mult, .list b, .int n => if 0 ≤ n ∧ n ≤ 1024 ∧ b.length ≤ 16 then some (.list (List.replicate n.toNat b).flatten) else Option.none
  | .FloorDiv, .int a, .int b => if b ≠ 0 ∧ b.natAbs < 1073741824 then some (.int (a.fdiv b)) else Option.none
  | .Mod, .int a, .int b => if b ≠ 0 ∧ b.natAbs < 1073741824 then some (.int (a.fmod b)) else Option.none
  | .Pow, .int a, .int n => if 0 ≤ n ∧ n ≤ 1000000 ∧ a.natAbs < 2 ^ 64 then some (.int (a ^ n.toNat)) else Option.none
  | .BitAnd, .int a, .int b => some (.int (Builtin.bitAnd a b))
  | .BitOr, .int a, .int b => some (.int (Builtin.bitOr a b))
  | .BitXor, .int a, .int b => some (.int (Builtin.bitXor a b))
  | .LShift, .int a, .int n => if 0 ≤ n ∧ n ≤ 1000000 ∧ a.natAbs < 2 ^ 64 then some (.int (a * 2 ^ n.toNat)) else Option.none
  | .RShift, .int a, .int n => if 0 ≤ n then some (.int (a.fdiv (2 ^ n.toNat))) else Option.none
  | _, _, _ => Option.none
noncomputable def kindsPart : PV → PV → Bool
  | .list _, .str _ => true
  | .bytes _, .str _ => true
  | _, _ => false
noncomputable def memP (x : PV) : List PV → Option Bool
  | [] => some false
  | y :: r => match eqP y x, memP x r with
    | some a, some b => some (a || b)
    | _, _ => Option.none
noncomputable def cmpop : CmpOp → PV → PV → Option Bool
  | .Eq, a, b => eqP a b
  | .NotEq, a, b => if kindsPart a b then some true else (eqP a b).map (!·)
  | .Lt, .int a, .int b => some (decide (a < b))
  | .LtE, .int a, .int b => some (decide (a ≤ b))
  | .Gt, .int a, .int b => some (decide (a > b))
  | .GtE, .int a, .int b => some (decide (a ≥ b))
  | .Is, .type a, .type b => some (a == b)
  | .Is, .none, .none => some true
  | .Is, .list _, .none => some false
  | .In, x, .list xs => memP x xs
  | _, _, _ => Option.none
noncomputable def truthP : PV → Option Bool
  | .bool b => some b
  | .int i => some (i != 0)
  | _ => Option.none
noncomputable def typeP : PV → Option String
  | .none => Option.none
  | .bool _ => some "bool"
  | .int _ => some "int"
  | .str _ => some "str"
  | .bytes _ => some "bytes"
  | .tuple _ => some "tuple"
  | .list _ => some "list"
  | .type _ => Option.none
noncomputable def itemP : PV → PV → Option PV
  | .bytes b, .int i => if 0 ≤ i ∧ i < b.length ∧ b.length ≤ lim then (b[i.toNat]?).map fun c => .int c.toNat else Option.none
  | .list xs, .int i => if 0 ≤ i ∧ i < xs.length ∧ xs.length ≤ lim then xs[i.toNat]? else Option.none
  | .tuple xs, .int i => if 0 ≤ i ∧ i < xs.length ∧ xs.length ≤ lim then xs[i.toNat]? else Option.none
  | _, _ => Option.none
noncomputable def endP (d : Nat) : Option PV → Option Nat
  | Option.none => some d
  | some (.int i) => if 0 ≤ i then some i.toNat else Option.none
  | _ => Option.none
noncomputable def cut {α : Type} (xs : List α) (i j : Nat) : List α := (xs.take j).drop i
noncomputable def sliceP (v : PV) (l u : Option PV) : Option PV := match v with
  | .bytes b => (match endP 0 l, endP b.length u with
    | some i, some j => if b.length ≤ lim then some (.bytes (cut b i j)) else Option.none
    | _, _ => Option.none)
  | .list xs => (match endP 0 l, endP xs.length u with
    | some i, some j => if xs.length ≤ lim then some (.list (cut xs i j)) else Option.none
    | _, _ => Option.none)
  | _ => Option.none
noncomputable def revP : PV → Option PV
  | .bytes b => if b.length ≤ lim then some (.bytes b.reverse) else Option.none
  | .list xs => if xs.length ≤ lim then some (.list xs.reverse) else Option.none
  | _ => Option.none
noncomputable def countP (x : PV) : List PV → Option Nat
  | [] => some 0
  | y :: r => match eqP y x, countP x r with
    | some a, some n => some (if a then n + 1 else n)
    | _, _ => Option.none
noncomputable def lenP : PV → Option PV
  | .bytes b => if b.length ≤ lim then some (.int b.length) else Option.none
  | .list xs => if xs.length ≤ lim then some (.int xs.length) else Option.none
  | _ => Option.none
noncomputable def bytesP : PV → Option PV
  | .bytes b => some (.bytes b)
  | .list xs => if xs.length ≤ lim then (allBytes xs).map .bytes else Option.none
  | _ => Option.none
noncomputable def builtin1 (f : Str) (v : PV) : Option PV :=
  if f == Str.ofString "len" then lenP v
  else if f == Str.ofString "bytes" then bytesP v
  else if f == Str.ofString "type" then (typeP v).map .type
  else Option.none
noncomputable def isBi (f : Str) : Bool := f == Str.ofString "len" || f == Str.ofString "bytes" || f == Str.ofString "type"
noncomputable def constP : Const → Option PV
  | .none => some .none
  | .bool b => some (.bool b)
  | .int i => some (.int i)
  | .str s => some (.str s)
  | .bytes b => some (.bytes b)
  | _ => Option.none
noncomputable def itemsP : PV → Option (List PV)
  | .list xs => some xs
  | .tuple xs => some xs
  | .bytes b => some (b.map fun c => .int c.toNat)
  | _ => Option.none
noncomputable def rangeP : PV → Option (List PV)
  | .int n => if 0 ≤ n ∧ n ≤ lim then some ((List.range n.toNat).map fun (k : Nat) => PV.int (k : Int)) else Option.none
  | _ => Option.none
structure Ev where
  ex : Scope → Expr → Loc → Rs (PV × Loc)
  tr : Scope → Expr → Loc → Rs (Bool × Loc)
  ss : Scope → List Stmt → Loc → Rs (Outc × Loc)
  cl : Str → List PV → Rs PV
noncomputable def isG (sc : Scope) (x : Str) : Bool := sc.names.lookup x == some .globalImplicit
noncomputable def isStar (e : Expr) : Bool := Nat.beq e.ctorIdx 22
noncomputable def isSetE (e : Expr) : Bool := Nat.beq e.ctorIdx 7
noncomputable def exs (E : Ev) (sc : Scope) : List Expr → Loc → Rs (List PV × Loc)
  | [], σ => .ok ([], σ)
  | e :: r, σ => if isStar e then .stuck else
    (E.ex sc e σ).bind fun p => (exs E sc r p.2).bind fun q => .ok (p.1 :: q.1, q.2)
noncomputable def exo (E : Ev) (sc : Scope) : Option Expr → Loc → Rs (Option PV × Loc)
  | none, σ => .ok (none, σ)
  | some e, σ => (E.ex sc e σ).bind fun p => .ok (some p.1, p.2)
noncomputable def names? : List Expr → Option (List Str)
  | [] => some []
  | .Name x _ :: r => (names? r).map (x :: ·)
  | _ => none
noncomputable def bindAll : List Str → List PV → Loc → Option Loc
  | [], [], σ => some σ
  | x :: r, v :: q, σ => (match σ.get x with
    | some _ => bindAll r q (σ.set x (.val v))
    | none => none)
  | _, _, _ => none
noncomputable def assignP (t : Expr) (v : PV) (σ : Loc) : Option Loc := match t with
  | .Name x _ => (match σ.get x with
    | some _ => some (σ.set x (.val v))
    | none => none)
  | .Tuple ts _ _ => (match names? ts, v with
    | some xs, .tuple vs => bindAll xs vs σ
    | _, _ => none)
  | _ => none
noncomputable def forL (t : Expr) (body : Loc → Rs (Outc × Loc)) : List PV → Loc → Rs (Outc × Loc)
  | [], σ => .ok (.next, σ)
  | v :: r, σ => (Rs.of (assignP t v σ)).bind fun σ₁ => (body σ₁).bind fun p => match p.1 with
    | .next => forL t body r p.2
    | .ret w => .ok (.ret w, p.2)
noncomputable def compL (t : Expr) (elt : Loc → Rs (PV × Loc)) : List PV → Loc → Rs (List PV)
  | [], _ => .ok []
  | v :: r, σ => (Rs.of (assignP t v σ)).bind fun σ₁ => match elt σ₁ with
    | .ok p => (compL t elt r p.2).bind fun ws => .ok (p.1 :: ws)
    | _ => .stuck
noncomputable def freshLoc (sc : Scope) : Loc := sc.names.filterMap fun p => match p.2 with
  | .local => some (p.1, Slot.unb)
  | _ => none
noncomputable def compScope (sc : Scope) : Bool := sc.kind == .function && !sc.isGenerator && !sc.isCoroutine && (sc.names.lookup (Str.ofString "__debug__")).isNone && sc.names.all fun p => p.2 == .local
noncomputable def compE (E : Ev) (sc : Scope) (elt : Expr) (gens : List Comprehension) (csc : Scope) (σ : Loc) : Rs (PV × Loc) := match gens with
  | [⟨t, it, [], a⟩] =>
    if a == 0 && compScope csc && !isSetE it then
      (E.ex sc it σ).bind fun p => match p.1 with
        | .list xs => (compL t (E.ex csc elt) xs (freshLoc csc)).bind fun ws => if ws.length ≤ lim then .ok (.list ws, p.2) else .stuck
        | _ => .stuck
    else .stuck
  | _ => .stuck
noncomputable def nameE (C : Ctx) (sc : Scope) (x : Str) (σ : Loc) : Rs (PV × Loc) := match σ.get x with
  | some (.val v) => .ok (v, σ)
  | some (.own xs) => .ok (.list xs, σ.set x (.val (.list xs)))
  | some _ => .stuck
  | none => if isG sc x then (Rs.of (C.glob x)).bind fun v => .ok (v, σ) else .stuck
noncomputable def inOwn (v : PV) : Slot → Option Bool
  | .own xs => memP v xs
  | .dict ks => (match v with
    | .bytes b => some (ks.contains b)
    | _ => none)
  | .val (.list xs) => memP v xs
  | _ => none
noncomputable def inName : List CmpOp → List Expr → Option Str
  | [.In], [.Name y _] => some y
  | _, _ => none
noncomputable def cmpE (E : Ev) (sc : Scope) (a : PV) : List CmpOp → List Expr → Loc → Rs (Bool × Loc)
  | [op], [r], σ => (match inName [op] [r] with
    | some y => (match σ.get y with
      | some sl => (Rs.of (inOwn a sl)).bind fun b => .ok (b, σ)
      | none => .stuck)
    | none => if isSetE r then .stuck else (E.ex sc r σ).bind fun p => (Rs.of (cmpop op a p.1)).bind fun c => .ok (c, p.2))
  | op :: ops, r :: rs, σ => (E.ex sc r σ).bind fun p => (Rs.of (cmpop op a p.1)).bind fun c => if c then cmpE E sc p.1 ops rs p.2 else .ok (false, p.2)
  | _, _, _ => .stuck
noncomputable def boolE (E : Ev) (sc : Scope) (op : BoolOp) : List Expr → Loc → Rs (Bool × Loc)
  | [], σ => .ok (op == .And, σ)
  | e :: r, σ => (E.tr sc e σ).bind fun p => match op, p.1 with
      | .And, false => .ok (false, p.2)
      | .Or, true => .ok (true, p.2)
      | _, _ => boolE E sc op r p.2
noncomputable def isSlice (e : Expr) : Bool := Nat.beq e.ctorIdx 26
noncomputable def subE (E : Ev) (sc : Scope) (o : PV) (i : Expr) (σ : Loc) : Rs (PV × Loc) := match i with
  | .Slice none none (some (.UnaryOp .USub (.Constant (.int 1) _ _) _)) _ => (Rs.of (revP o)).bind fun r => .ok (r, σ)
  | .Slice l u none _ => (exo E sc l σ).bind fun p => (exo E sc u p.2).bind fun q => (Rs.of (sliceP o p.1 q.1)).bind fun r => .ok (r, q.2)
  | .Slice .. => .stuck
  | i => (E.ex sc i σ).bind fun p => (Rs.of (itemP o p.1)).bind fun r => .ok (r, p.2)
noncomputable def callE (C : Ctx) (E : Ev) (sc : Scope) (f : Str) (args : List Expr) (σ : Loc) : Rs (PV × Loc) :=
  if (σ.get f).isNone && isG sc f && decide (args.length < 30) then
    match C.fns f with
    | some _ => (exs E sc args σ).bind fun p => (E.cl f p.1).bind fun v => .ok (v, p.2)
    | none => (match args with
      | [a] => if isStar a || !isBi f then .stuck else (E.ex sc a σ).bind fun p => (Rs.of (builtin1 f p.1)).bind fun r => .ok (r, p.2)
      | _ => .stuck)
  else .stuck
noncomputable def methE (E : Ev) (sc : Scope) (o : Expr) (m : Str) (a : Expr) (σ : Loc) : Rs (PV × Loc) :=
  if isStar a then .stuck
  else if m == Str.ofString "join" then
    match o with
    | .Constant (.bytes []) _ _ => (E.ex sc a σ).bind fun p => match p.1 with
      | .list xs => (Rs.of (joinBytes xs)).bind fun b => if b.length ≤ lim then .ok (.bytes b, p.2) else .stuck
      | _ => .stuck
    | _ => .stuck
  else if m == Str.ofString "count" then
    match o with
    | .Name x q => (E.ex sc (.Name x q) σ).bind fun p => match p.1 with
      | .list xs => (E.ex sc a p.2).bind fun q => (Rs.of (countP q.1 xs)).bind fun n => .ok (.int n, q.2)
      | _ => .stuck
    | _ => .stuck
  else .stuck
noncomputable def stepEx (C : Ctx) (E : Ev) (sc : Scope) (e : Expr) (σ : Loc) : Rs (PV × Loc) := match e with
  | .Constant c _ _ => (Rs.of (constP c)).bind fun v => .ok (v, σ)
  | .Name x _ => nameE C sc x σ
  | .BinOp l op r _ => (E.ex sc l σ).bind fun p => (E.ex sc r p.2).bind fun q => (Rs.of (binop op p.1 q.1)).bind fun v => .ok (v, q.2)
  | .Compare l ops cs _ => (E.ex sc l σ).bind fun p => (cmpE E sc p.1 ops cs p.2).bind fun q => .ok (.bool q.1, q.2)
  | .Tuple es _ _ => (exs E sc es σ).bind fun p => if p.1.length ≤ lim then .ok (.tuple p.1, p.2) else .stuck
  | .List es _ => (exs E sc es σ).bind fun p => if p.1.length ≤ lim then .ok (.list p.1, p.2) else .stuck
  | .Subscript o i _ => (E.ex sc o σ).bind fun p => subE E sc p.1 i p.2
  | .ListComp elt gens csc _ => compE E sc elt gens csc σ
  | .Call (.Name f _) args [] _ => callE C E sc f args σ
  | .Call (.Attribute o m ap) [a] [] p => if ap.endLine == p.line then methE E sc o m a σ else .stuck
  | _ => .stuck
noncomputable def stepTr (E : Ev) (sc : Scope) (e : Expr) (σ : Loc) : Rs (Bool × Loc) := match e with
  | .UnaryOp .Not x _ => (E.tr sc x σ).bind fun p => .ok (!p.1, p.2)
  | .BoolOp op vs _ => boolE E sc op vs σ
  | .Compare l ops cs _ => (E.ex sc l σ).bind fun p => cmpE E sc p.1 ops cs p.2
  | .IfExp .. => .stuck
  | .UnaryOp .. => .stuck
  | e => (E.ex sc e σ).bind fun p => (Rs.of (truthP p.1)).bind fun b => .ok (b, p.2)
noncomputable def isComp (e : Expr) : Bool := Nat.ble 8 e.ctorIdx && Nat.ble e.ctorIdx 11
noncomputable def isComp2 (e : Expr) : Bool := Nat.ble 9 e.ctorIdx && Nat.ble e.ctorIdx 10
noncomputable def isTup (e : Expr) : Bool := Nat.beq e.ctorIdx 25
noncomputable def emptyList : Expr → Bool
  | .List [] _ => true
  | _ => false
noncomputable def emptyDict : Expr → Bool
  | .Dict [] [] _ => true
  | _ => false
noncomputable def isTrueC : Expr → Bool
  | .Constant (.bool true) _ _ => true
  | _ => false
noncomputable def isRange : Expr → Option Expr
  | .Call (.Name f _) [a] [] _ => if f == Str.ofString "range" && !isStar a then some a else none
  | _ => none
noncomputable def isAppend : Expr → Option (Str × Expr)
  | .Call (.Attribute (.Name x _) m ap) [a] [] p => if m == Str.ofString "append" && ap.endLine == p.line && !isStar a then some (x, a) else none
  | _ => none
noncomputable def isVE (sc : Scope) (σ : Loc) : Expr → Bool
  | .Call (.Name f _) [.Constant (.str _) _ _] [] _ => f == Str.ofString "ValueError" && isG sc f && (σ.get f).isNone
  | _ => false
noncomputable def iterE (E : Ev) (sc : Scope) (it : Expr) (σ : Loc) : Rs (List PV × Loc) := match isRange it with
  | some a =>
    if isG sc (Str.ofString "range") && (σ.get (Str.ofString "range")).isNone then
      (E.ex sc a σ).bind fun p => (Rs.of (rangeP p.1)).bind fun l => .ok (l, p.2)
    else .stuck
  | none => (E.ex sc it σ).bind fun p => (Rs.of (itemsP p.1)).bind fun l => .ok (l, p.2)
noncomputable def setE (E : Ev) (sc : Scope) (x : Str) (v : Expr) (σ : Loc) : Rs (Outc × Loc) :=
  (E.ex sc v σ).bind fun p => (match p.2.get x with
    | some _ => .ok (.next, p.2.set x (.val p.1))
    | none => .stuck)
noncomputable def stepSt (C : Ctx) (E : Ev) (sc : Scope) (st : Stmt) (σ : Loc) : Rs (Outc × Loc) := match st with
  | .Assign [.Name x _] v _ =>
    if emptyList v then (match σ.get x with
      | some _ => .ok (.next, σ.set x (.own []))
      | none => .stuck)
    else if emptyDict v then (match σ.get x with
      | some _ => .ok (.next, σ.set x (.dict []))
      | none => .stuck)
    else if isComp2 v then .stuck
    else setE E sc x v σ
  | .Assign [.Tuple ts k p] v _ =>
    if isTup v || isComp v then .stuck
    else (E.ex sc v σ).bind fun q => (Rs.of (assignP (.Tuple ts k p) q.1 q.2)).bind fun σ₂ => .ok (.next, σ₂)
  | .Assign [.Subscript (.Name x _) (.Name k _) _] v _ =>
    if isTrueC v then (match σ.get x, σ.get k with
      | some (.dict ks), some (.val (.bytes b)) => if ks.length < lim then .ok (.next, σ.set x (.dict (if ks.contains b then ks else ks ++ [b]))) else .stuck
      | _, _ => .stuck)
    else .stuck
  | .Expr e _ => (match isAppend e with
    | some (x, a) => (match σ.get x with
      | some (.own _) => (E.ex sc a σ).bind fun p => (match p.2.get x with
        | some (.own xs) => if xs.length < lim then .ok (.next, p.2.set x (.own (xs ++ [p.1]))) else .stuck
        | _ => .stuck)
      | _ => .stuck)
    | none => .stuck)
  | .If t b o _ => (E.tr sc t σ).bind fun p => if p.1 then E.ss sc b p.2 else E.ss sc o p.2
  | .Return (some e) _ => (E.ex sc e σ).bind fun p => .ok (.ret p.1, p.2)
  | .Raise (some e) none _ => if isVE sc σ e && C.exc then .exc else .stuck
  | .For t it b [] _ => if isSetE it then .stuck else (iterE E sc it σ).bind fun p => forL t (E.ss sc b) p.1 p.2
  | .Try [.Assign [.Name x _] v _] [.ExceptHandler (some (.Name f _)) none [.Assign [.Name y _] (.Constant c _ _) _] _] [] [] _ =>
    if f == Str.ofString "ValueError" && isG sc f && (σ.get f).isNone && !isComp v && !emptyList v && !emptyDict v then
      match setE E sc x v σ with
      | .exc => (match constP c, σ.get y with
        | some w, some _ => .ok (.next, σ.set y (.val w))
        | _, _ => .stuck)
      | o => o
    else .stuck
  | _ => .stuck
noncomputable def stepSs (C : Ctx) (E : Ev) (sc : Scope) : List Stmt → Loc → Rs (Outc × Loc)
  | [], σ => .ok (.next, σ)
  | s :: r, σ => (stepSt C E sc s σ).bind fun p => match p.1 with
    | .next => stepSs C E sc r p.2
    | .ret v => .ok (.ret v, p.2)
noncomputable def stepCl (C : Ctx) (E : Ev) (f : Str) (vs : List PV) : Rs PV := match C.fns f with
  | some fn => (Rs.of (bindAll fn.params vs (freshLoc fn.scope))).bind fun σ => (E.ss fn.scope fn.body σ).bind fun p => (match p.1 with
      | .ret v => .ok v
      | .next => .stuck)
  | none => .stuck
noncomputable def step (C : Ctx) (E : Ev) : Ev where
  ex := stepEx C E
  tr := stepTr E
  ss := stepSs C E
  cl := stepCl C E
noncomputable def stuck : Ev where
  ex := fun _ _ _ => .stuck
  tr := fun _ _ _ => .stuck
  ss := fun _ _ _ => .stuck
  cl := fun _ _ => .stuck
noncomputable def ev (C : Ctx) : Nat → Ev
  | 0 => stuck
  | n + 1 => step C (ev C n)
noncomputable def fnOfStmt : Stmt → Option (Str × Fn)
  | .FunctionDef name a b _ _ _ sc _ _ _ => some (name, ⟨a.args.map (·.arg), sc, b⟩)
  | _ => none
noncomputable def fnsOf (p : Program) : List (Str × Fn) := p.main.body.filterMap fnOfStmt
theorem Rs.ok_bind {α β : Type} (a : α) (f : α → Rs β) : (Rs.ok a).bind f = f a := rfl
theorem Rs.exc_bind {α β : Type} (f : α → Rs β) : (Rs.exc : Rs α).bind f = .exc := rfl
end Mine
set_option maxRecDepth 100000
namespace Mine
open PySem PyProof.Rows
abbrev GM := Addr → Option Obj
mutual
inductive Rep (G : GM) : Value → PV → Prop
  | none : Rep G Value.none PV.none
  | bool (b : Bool) : Rep G (Value.bool b) (PV.bool b)
  | int (i : Int) (t : Tok) : Rep G (Value.int i t) (PV.int i)
  | str (x : Str) (t : Tok) : Rep G (Value.str x t) (PV.str x)
  | bytes (b : List UInt8) (t : Tok) : Rep G (Value.bytes b.toArray t) (PV.bytes b)
  | type (n : String) : Rep G (Value.type n) (PV.type n)
  | tuple {a : Addr} {o : Obj} {vs : List Value} {n : Nat} {xs : List PV} : G a = some o → o.cls = .type "tuple" → o.data = .seq vs.toArray n → RepL G vs xs → Rep G (Value.ref a) (PV.tuple xs)
  | list {a : Addr} {o : Obj} {vs : List Value} {n : Nat} {xs : List PV} : G a = some o → o.cls = .type "list" → o.dict = none → o.data = .seq vs.toArray n → RepL G vs xs → Rep G (Value.ref a) (PV.list xs)
inductive RepL (G : GM) : List Value → List PV → Prop
  | nil : RepL G [] []
  | cons {v : Value} {vs : List Value} {x : PV} {xs : List PV} : Rep G v x → RepL G vs xs → RepL G (v :: vs) (x :: xs)
end
inductive ListAt (G : GM) (xs : List PV) : Value → Prop
  | mk (a : Addr) (o : Obj) (vs : List Value) (n : Nat) (ea : G a = some o) (ca : o.cls = .type "list") (dna : o.dict = none) (da : o.data = .seq vs.toArray n) (la : RepL G vs xs) : ListAt G xs (Value.ref a)
inductive TupAt (G : GM) (xs : List PV) : Value → Prop
  | mk (a : Addr) (o : Obj) (vs : List Value) (n : Nat) (ea : G a = some o) (ca : o.cls = .type "tuple") (da : o.data = .seq vs.toArray n) (la : RepL G vs xs) : TupAt G xs (Value.ref a)
theorem Rep.lst {G : GM} {v : Value} {xs : List PV} (h : Rep G v (.list xs)) : ListAt G xs v := by
  cases h with | list a b c d e => exact .mk _ _ _ _ a b c d e
theorem Rep.tpl {G : GM} {v : Value} {xs : List PV} (h : Rep G v (.tuple xs)) : TupAt G xs v := by
  cases h with | tuple a b c d => exact .mk _ _ _ _ a b c d
theorem Rep.inv_type {G : GM} {v : Value} {n : String} (h : Rep G v (.type n)) : v = Value.type n := by
  cases h; rfl
theorem Rep.inv_int {G : GM} {v : Value} {i : Int} (h : Rep G v (.int i)) : ∃ t, v = Value.int i t := by
  cases h with | int _ t => exact ⟨t, rfl⟩
theorem Rep.inv_bytes {G : GM} {v : Value} {b : List UInt8} (h : Rep G v (.bytes b)) : ∃ t, v = Value.bytes b.toArray t := by
  cases h with | bytes _ t => exact ⟨t, rfl⟩
theorem Rep.inv_str {G : GM} {v : Value} {b : Str} (h : Rep G v (.str b)) : ∃ t, v = Value.str b t := by
  cases h with | str _ t => exact ⟨t, rfl⟩
theorem Rep.inv_none {G : GM} {v : Value} (h : Rep G v .none) : v = Value.none := by
  cases h with | none => rfl
theorem Rep.inv_bool {G : GM} {v : Value} {b : Bool} (h : Rep G v (.bool b)) : v = Value.bool b := by
  cases h with | bool _ => rfl
theorem Rep.inv_tuple {G : GM} {v : Value} {xs : List PV} (h : Rep G v (.tuple xs)) : ∃ (a : Addr) (o : Obj) (vs : List Value) (n : Nat), v = Value.ref a ∧ G a = some o ∧ o.cls = .type "tuple" ∧ o.data = .seq vs.toArray n ∧ RepL G vs xs := by
  cases h with | tuple e c d l => exact ⟨_, _, _, _, rfl, e, c, d, l⟩
theorem Rep.inv_list {G : GM} {v : Value} {xs : List PV} (h : Rep G v (.list xs)) : ∃ (a : Addr) (o : Obj) (vs : List Value) (n : Nat), v = Value.ref a ∧ G a = some o ∧ o.cls = .type "list" ∧ o.dict = Option.none ∧ o.data = .seq vs.toArray n ∧ RepL G vs xs := by
  cases h with | list e c dn d l => exact ⟨_, _, _, _, rfl, e, c, dn, d, l⟩
noncomputable def GSub (G G' : GM) : Prop := ∀ a o, G a = some o → G' a = some o
theorem GSub.refl (G : GM) : GSub G G := fun _ _ e => e
theorem GSub.trans {G₁ G₂ G₃ : GM} (x : GSub G₁ G₂) (y : GSub G₂ G₃) : GSub G₁ G₃ := fun a o e => y a o (x a o e)
theorem Rep.mono {G G' : GM} (hs : GSub G G') {v : Value} {x : PV} (h : Rep G v x) : Rep G' v x :=
  Rep.rec (motive_1 := fun v x _ => Rep G' v x) (motive_2 := fun vs xs _ => RepL G' vs xs) .none .bool .int .str .bytes .type (fun h c d _ r => .tuple (hs _ _ h) c d r) (fun h c n d _ r => .list (hs _ _ h) c n d r) .nil (fun _ _ h r => .cons h r) h
theorem RepL.mono {G G' : GM} (hs : GSub G G') {vs : List Value} {xs : List PV} (h : RepL G vs xs) : RepL G' vs xs :=
  RepL.rec (motive_1 := fun v x _ => Rep G' v x) (motive_2 := fun vs xs _ => RepL G' vs xs) .none .bool .int .str .bytes .type (fun h c d _ r => .tuple (hs _ _ h) c d r) (fun h c n d _ r => .list (hs _ _ h) c n d r) .nil (fun _ _ h r => .cons h r) h
theorem RepL.ind {G : GM} {P : List Value → List PV → Prop} (h0 : P [] []) (h1 : ∀ {v : Value} {vs : List Value} {x : PV} {xs : List PV}, Rep G v x → RepL G vs xs → P vs xs → P (v :: vs) (x :: xs)) {vs : List Value} {xs : List PV} (h : RepL G vs xs) : P vs xs :=
  RepL.rec (motive_1 := fun _ _ _ => True) (motive_2 := fun vs xs _ => P vs xs) trivial (fun _ => trivial) (fun _ _ => trivial) (fun _ _ => trivial) (fun _ _ => trivial) (fun _ => trivial) (fun _ _ _ _ _ => trivial) (fun _ _ _ _ _ _ => trivial) h0 (fun h r _ k => h1 h r k) h
theorem RepL.length {G : GM} {vs : List Value} {xs : List PV} (h : RepL G vs xs) : vs.length = xs.length := h.ind (P := fun vs xs => vs.length = xs.length) rfl fun _ _ k => congrArg (· + 1) k
theorem RepL.append {G : GM} {vs ws : List Value} {xs ys : List PV} (h : RepL G vs xs) (k : RepL G ws ys) : RepL G (vs ++ ws) (xs ++ ys) := h.ind (P := fun vs xs => RepL G (vs ++ ws) (xs ++ ys)) k fun h _ r => .cons h r
theorem RepL.get {G : GM} {vs : List Value} {xs : List PV} {i : Nat} {x : PV} (h : RepL G vs xs) (e : xs[i]? = some x) : ∃ v, vs[i]? = some v ∧ Rep G v x :=
  h.ind (P := fun vs xs => ∀ i, xs[i]? = some x → ∃ v, vs[i]? = some v ∧ Rep G v x) (fun _ e => noSome e) (fun {v vs y ys} h _ k i e => by
    cases i with
    | zero => cases (Option.some.inj (show some y = some x from e)); exact ⟨v, rfl, h⟩
    | succ i => exact k i e) i e
theorem RepL.get' {G : GM} {vs : List Value} {xs : List PV} {i : Nat} {v : Value} (h : RepL G vs xs) (e : vs[i]? = some v) : ∃ x, xs[i]? = some x ∧ Rep G v x :=
  h.ind (P := fun vs xs => ∀ i, vs[i]? = some v → ∃ x, xs[i]? = some x ∧ Rep G v x) (fun _ e => noSome e) (fun {u us y ys} h _ k i e => by
    cases i with
    | zero => cases (Option.some.inj (show some u = some v from e)); exact ⟨y, rfl, h⟩
    | succ i => exact k i e) i e
theorem RepL.take {G : GM} (n : Nat) {vs : List Value} {xs : List PV} (h : RepL G vs xs) : RepL G (vs.take n) (xs.take n) :=
  h.ind (P := fun vs xs => ∀ n, RepL G (vs.take n) (xs.take n)) (fun n => by rw [List.take_nil, List.take_nil]; exact .nil) (fun h _ k n => by
    cases n with
    | zero => exact .nil
    | succ n => exact .cons h (k n)) n
theorem RepL.drop {G : GM} (n : Nat) {vs : List Value} {xs : List PV} (h : RepL G vs xs) : RepL G (vs.drop n) (xs.drop n) :=
  h.ind (P := fun vs xs => ∀ n, RepL G (vs.drop n) (xs.drop n)) (fun n => by rw [List.drop_nil, List.drop_nil]; exact .nil) (fun h r k n => by
    cases n with
    | zero => exact .cons h r
    | succ n => exact k n) n
theorem RepL.reverse {G : GM} {vs : List Value} {xs : List PV} (h : RepL G vs xs) : RepL G vs.reverse xs.reverse :=
  h.ind (P := fun vs xs => RepL G vs.reverse xs.reverse) .nil fun h _ k => by rw [List.reverse_cons, List.reverse_cons]; exact k.append (.cons h .nil)
theorem RepL.replicate {G : GM} {vs : List Value} {xs : List PV} (h : RepL G vs xs) : ∀ n : Nat, RepL G (List.replicate n vs).flatten (List.replicate n xs).flatten
  | 0 => .nil
  | n + 1 => by rw [List.replicate_succ, List.replicate_succ, List.flatten_cons, List.flatten_cons]; exact RepL.append h (RepL.replicate h n)
structure Tr (fr : List Addr) (own : Addr → Prop) (h h' : Heap) : Prop where
  keep : ∀ b o, h.get? b = some o → ¬ own b → ∃ sl, h'.get? b = some { o with slots := sl } ∧ (b ∉ fr → sl = o.slots)
noncomputable def noOwn : Addr → Prop := fun _ => False
theorem Tr.refl (fr : List Addr) (own : Addr → Prop) (h : Heap) : Tr fr own h h := ⟨fun _ o e _ => ⟨o.slots, e, fun _ => rfl⟩⟩
theorem Tr.of_keeps {fr : List Addr} {own : Addr → Prop} {h h' : Heap} (k : ∀ b o, h.get? b = some o → h'.get? b = some o) : Tr fr own h h' :=
  ⟨fun b o e _ => ⟨o.slots, k b o e, fun _ => rfl⟩⟩
theorem Tr.trans {fr : List Addr} {own own' : Addr → Prop} {h₁ h₂ h₃ : Heap} (x : Tr fr own h₁ h₂) (y : Tr fr own' h₂ h₃) (ho : ∀ b, own' b → own b ∨ h₁.get? b = none) : Tr fr own h₁ h₃ := by
  refine ⟨fun b o e n => ?_⟩
  obtain ⟨sl, e₂, k₂⟩ := x.keep b o e n
  have n' : ¬ own' b := fun q => (ho b q).elim n fun r => by rw [r] at e; cases e
  obtain ⟨sl', e₃, k₃⟩ := y.keep b _ e₂ n'
  exact ⟨sl', e₃, fun hb => (k₃ hb).trans (k₂ hb)⟩
theorem Tr.trans0 {fr : List Addr} {own : Addr → Prop} {h₁ h₂ h₃ : Heap} (x : Tr fr own h₁ h₂) (y : Tr fr noOwn h₂ h₃) : Tr fr own h₁ h₃ := x.trans y fun _ q => q.elim
theorem Tr.exact {fr : List Addr} {own : Addr → Prop} {h h' : Heap} (x : Tr fr own h h') {b : Addr} {o : Obj} (e : h.get? b = some o) (n : ¬ own b) (hb : b ∉ fr) : h'.get? b = some o := by
  obtain ⟨sl, e', k⟩ := x.keep b o e n
  rw [e', k hb]
theorem Tr.back {fr : List Addr} {own : Addr → Prop} {h h' : Heap} (x : Tr fr own h h') {b : Addr} (e : h'.get? b = none) (n : ¬ own b) : h.get? b = none := by
  cases q : h.get? b with
  | none => rfl
  | some o => obtain ⟨sl, e', _⟩ := x.keep b o q n; rw [e'] at e; cases e
theorem isNs_slots {h h' : Heap} {L : Addr} {m : Str → Option Value} (hn : h.Ns L m) (k : ∀ o, h.get? L = some o → ∃ sl, h'.get? L = some { o with slots := sl }) : h'.Ns L m := by
  obtain ⟨o, es, ep, ho, r⟩ := hn
  obtain ⟨sl, e⟩ := k o ho
  exact ⟨_, es, ep, e, r⟩
end Mine
set_option maxRecDepth 100000
namespace Mine
open PySem PyProof.Rows
noncomputable def framesOf (F : List Env) : List Addr := F.filterMap (·.frame)
noncomputable def noHeap : Heap := {}
theorem noHeap_get (a : Addr) : noHeap.get? a = none := by simp [noHeap, Heap.get?]
inductive ExcThere (P : Addr → Prop) (tb : Prop) (e : Addr) (h : Heap) : Prop
  | mk (oe : Obj) (vs : Array Value) (h1 : h.get? e = some oe) (h2 : oe.cls = .type "ValueError") (h3 : oe.data = .fields vs) (h4 : 1 < vs.size)
    (h5 : (¬ tb ∧ vs[1]? = some .none) ∨ ∃ T oT ts, vs[1]? = some (.ref T) ∧ P T ∧ T ≠ e ∧ h.get? T = some oT ∧ oT.data = .fields ts ∧ 3 < ts.size)
structure ExcAt (P : Addr → Prop) (tb : Prop) (e : Addr) (h : Heap) : Prop where
  own : P e
  there : ExcThere P tb e h
theorem ExcAt.mono {P P' : Addr → Prop} {tb : Prop} {e : Addr} {h : Heap} (x : ExcAt P tb e h) (hp : ∀ b, P b → P' b) : ExcAt P' tb e h := by
  obtain ⟨h1, oe, vs, h2, h3, h4, h5, h6⟩ := x
  refine ⟨hp _ h1, oe, vs, h2, h3, h4, h5, h6.imp id ?_⟩
  rintro ⟨T, oT, ts, a, b, c⟩
  exact ⟨T, oT, ts, a, hp _ b, c⟩
theorem Tr.of_update {fr : List Addr} {P : Addr → Prop} {h : Heap} {a : Addr} (f : Obj → Obj) (hP : P a) : Tr fr P h (h.update a f) :=
  ⟨fun b o e n => ⟨o.slots, (Heap.get?_update_other h f (fun (q : a = b) => n (q ▸ hP))).trans e, fun _ => rfl⟩⟩
theorem Tr.of_push {fr : List Addr} {P : Addr → Prop} {h : Heap} (o : Obj) : Tr fr P h (h.push o) :=
  Tr.of_keeps fun _ _ e => Heap.get?_push_of_some _ e
theorem Tr.of_slots {fr : List Addr} {P : Addr → Prop} {h h' : Heap} (x : Heap.SlotsOnly fr h h') : Tr fr P h h' := by
  refine ⟨fun b o e _ => ?_⟩
  obtain ⟨sl, e'⟩ := x.2.2 b o e
  refine ⟨sl, e', fun hb => ?_⟩
  have q := x.2.1 b hb
  rw [e', e] at q
  injection q with q
  exact congrArg Obj.slots q
theorem Tr.same {fr : List Addr} {P : Addr → Prop} {h₁ h₂ h₃ : Heap} (x : Tr fr P h₁ h₂) (y : Tr fr P h₂ h₃) : Tr fr P h₁ h₃ := x.trans y fun _ q => .inl q
theorem FunFrames.tr {fr : List Addr} {P : Addr → Prop} {h h' : Heap} {l : List Env} (hl : h.FunFrames noHeap l) (t : Tr fr P h h') (hn : ∀ b ∈ framesOf l, ¬ P b) : h'.FunFrames noHeap l := by
  induction l with
  | nil => trivial
  | cons env rest ih =>
    obtain ⟨hk, ⟨L, o, hf, hn', ho, hd⟩, hr⟩ := hl
    have hL : L ∈ framesOf (env :: rest) := by simp [framesOf, hf]
    obtain ⟨sl, e, _⟩ := t.keep L o ho (hn L hL)
    refine ⟨hk, ⟨L, _, hf, hn', e, hd⟩, ih hr fun b hb => hn b ?_⟩
    unfold framesOf at hb ⊢
    rw [List.filterMap_cons, hf]
    exact List.mem_cons_of_mem _ hb
section
variable {M : Model} {A : Around} {E : Value → Shared → Prop} {s : Shared} {env : Env} {outer : List Env} {L e : Addr} {P : Addr → Prop} {tb : Prop} {Q : Unit → Shared → Prop}
theorem setFlight_ok (f : Option Addr) (X : ExcAt P tb e s.heap)
    (h : ∀ h', Tr (framesOf (env :: outer)) P s.heap h' → ExcAt P tb e h' → Q () { s with heap := h' }) : wpAny M A (setFlight (.ref e) f) Q E s := by
  obtain ⟨hP, oe, vs, he, hc, hd, hsz, hk⟩ := X
  unfold setFlight
  rcases hk with ⟨hn, h1⟩ | ⟨T, oT, ts, h1, hPT, hTe, hT, hdT, h3⟩
  · refine wpAny_bind (wpAny_field he hd h1 ?_)
    rw [if_neg (by decide)]
    exact wpAny_pure (h s.heap (Tr.refl ..) ⟨hP, oe, vs, he, hc, hd, hsz, .inl ⟨hn, h1⟩⟩)
  · refine wpAny_bind (wpAny_field he hd h1 ?_)
    rw [if_pos (show (Value.ref T != Value.none) = true from by simp)]
    refine wpAny_setField hT hdT h3 (h _ (Tr.of_update _ hPT) ⟨hP, oe, vs, ?_, hc, hd, hsz, .inr ⟨T, _, _, h1, hPT, hTe, Heap.get?_update_self _ hT (Obj.isFreed_of_fields (Obj.data_mapFields hdT _)), Obj.data_mapFields hdT _, by simpa using h3⟩⟩)
    rw [Heap.get?_update_other _ _ hTe]; exact he
theorem noteFrame_ok (hfr : A.frames = some (env :: outer)) (hl : s.heap.FunFrames noHeap (env :: outer)) (hf : env.frame = some L) (X : ExcAt P tb e s.heap)
    (hP : ∀ b, s.heap.get? b = none → P b) (hPf : ∀ b ∈ framesOf (env :: outer), ¬ P b)
    (h : ∀ h', Tr (framesOf (env :: outer)) P s.heap h' → ExcAt P True e h' → Q () { s with heap := h' }) : wpAny M A (noteFrame (.ref e) env) Q E s := by
  obtain ⟨hPe, oe, vs, he, hc, hd, hsz, hk⟩ := X
  -- the fresh entry, behind whatever the head was
  have fresh : ∀ (s' : Shared) (head : Value) (b : Bool), (∃ h'', s' = { s with heap := h'' }) → Tr (framesOf (env :: outer)) P s.heap s'.heap → s'.heap.get? e = some oe → s'.heap.objs.size = s.heap.objs.size →
      wpAny M A (do let a ← frameOf env; let pl ← entryPlaceOf L b; let x ← EntryCells.newEntry head a .none (rawInt L) .none pl; setField (.ref e) 1 x) Q E s' := by
    rintro s' head b ⟨h'', rfl⟩ t he' hsz'
    refine wpAny_bind (wpAny_frameOf_fun hfr (FunFrames.tr hl t hPf) hf fun h₁ hs₁ => ?_)
    refine wpAny_bind (wpAny_entryPlaceOf fun pl hpl => ?_)
    unfold EntryCells.newEntry newFields
    refine wpAny_bind (wpAny_newObj_type ?_ (hpl.sizeOk5 _ _ _ _ _))
    have hene : e ∉ (env :: outer).filterMap (·.frame) := fun hm => hPf e hm hPe
    have he₁ : h₁.get? e = some oe := (hs₁.2.1 e hene).trans he'
    have he₂ := Heap.get?_push_of_some (h := h₁) { cls := .type "traceback", dict := none, data := .fields ([head, .ref L, .none, rawInt L, .none] ++ (if pl.isEmpty then List.replicate 6 Value.none else pl)).toArray } he₁
    refine wpAny_setField he₂ hd hsz ?_
    have hTe : h₁.objs.size ≠ e := Nat.ne_of_gt (Heap.lt_size he₁)
    have hs₁' : h₁.objs.size = s.heap.objs.size := hs₁.1.trans hsz'
    have hPT : P h₁.objs.size := hP _ (Heap.get?_none_of_le (Nat.le_of_eq hs₁'.symm))
    have hd₃ := Obj.data_mapFields hd (·.setIfInBounds 1 (Value.ref h₁.objs.size))
    have he₃ := Heap.get?_update_self (Obj.mapFields (·.setIfInBounds 1 (Value.ref h₁.objs.size))) he₂ (Obj.isFreed_of_fields hd₃)
    have hT₃ := (Heap.get?_update_other (h₁.push { cls := .type "traceback", dict := none, data := .fields ([head, .ref L, .none, rawInt L, .none] ++ (if pl.isEmpty then List.replicate 6 Value.none else pl)).toArray })
      (Obj.mapFields (·.setIfInBounds 1 (Value.ref h₁.objs.size))) (Ne.symm hTe)).trans (Heap.get?_push_size h₁ rfl)
    refine h _ (((t.same (Tr.of_slots hs₁)).same (Tr.of_push _)).same (Tr.of_update _ hPe)) ⟨hPe, _, _, he₃, (Obj.cls_mapFields _ _).trans hc, hd₃, by simpa using hsz, .inr ⟨h₁.objs.size, _, _, by simp [hsz], hPT, hTe, hT₃, rfl, ?_⟩⟩
    simp only [List.size_toArray, List.length_append, List.length_cons, List.length_nil]
    (exact (linS [_] [] 1 (.n 3) (.a (.a (.a (.a (.a (.a (.n 0) (.n 1)) (.n 1)) (.n 1)) (.n 1)) (.n 1)) (.v 0)) rfl))
  unfold noteFrame
  simp only [hf]
  rcases hk with ⟨_, h1⟩ | ⟨T, oT, ts, h1, hPT, hTe, hT, hdT, h3⟩
  · refine wpAny_bind (wpAny_field he hd h1 ?_)
    rw [if_neg (by decide)]
    exact fresh s _ _ ⟨s.heap, rfl⟩ (Tr.refl ..) he rfl
  · refine wpAny_bind (wpAny_field he hd h1 ?_)
    rw [if_pos (show (Value.ref T != Value.none) = true from by simp)]
    obtain ⟨x3, hx3⟩ : ∃ x, ts[3]? = some x := ⟨ts[3], Array.getElem?_eq_getElem h3⟩
    refine wpAny_bind (wpAny_field hT hdT hx3 ?_)
    by_cases hq : (x3 == rawInt L) = true
    · rw [if_pos hq]
      exact wpAny_pure (h s.heap (Tr.refl ..) ⟨hPe, oe, vs, he, hc, hd, hsz, .inr ⟨T, oT, ts, h1, hPT, hTe, hT, hdT, h3⟩⟩)
    · rw [if_neg hq]
      refine wpAny_bind (wpAny_setField hT hdT h3 ?_)
      exact fresh _ _ _ ⟨_, rfl⟩ (Tr.of_update _ hPT) ((Heap.get?_update_other _ _ hTe).trans he) (Heap.size_after_update ..)
end
end Mine
set_option maxRecDepth 100000
set_option linter.unusedVariables false
namespace Mine
open PySem PyProof.Rows PySem.W
noncomputable def GIn (G : GM) (h : Heap) : Prop := ∀ a o, G a = some o → h.get? a = some o
structure Ext (G : GM) (h : Heap) (G' : GM) (h' : Heap) : Prop where
  keep : ∀ b o, h.get? b = some o → h'.get? b = some o
  gs : GSub G G'
  gn : ∀ a o, G' a = some o → G a = some o ∨ h.get? a = none
  gin : GIn G' h'
theorem Ext.refl {G : GM} {h : Heap} (g : GIn G h) : Ext G h G h := ⟨fun _ _ e => e, GSub.refl _, fun _ _ e => .inl e, g⟩
theorem Ext.trans {G₁ G₂ G₃ : GM} {h₁ h₂ h₃ : Heap} (x : Ext G₁ h₁ G₂ h₂) (y : Ext G₂ h₂ G₃ h₃) : Ext G₁ h₁ G₃ h₃ :=
  ⟨fun b o e => y.keep b o (x.keep b o e), x.gs.trans y.gs, fun a o e => (y.gn a o e).elim (x.gn a o) fun q => .inr (kts_none x.keep q), y.gin⟩
theorem GIn.keeps {G : GM} {h h' : Heap} (g : GIn G h) (k : ∀ b o, h.get? b = some o → h'.get? b = some o) : GIn G h' := fun a o e => k a o (g a o e)
theorem Ext.same {G : GM} {h h' : Heap} (g : GIn G h) (k : ∀ b o, h.get? b = some o → h'.get? b = some o) : Ext G h G h' := ⟨k, GSub.refl _, fun _ _ e => .inl e, g.keeps k⟩
theorem Ext.pushed {G : GM} {h : Heap} (g : GIn G h) (o : Obj) : Ext G h G (h.push o) := .same g fun _ _ e => Heap.get?_push_of_some _ e
noncomputable def upd (G : GM) (a : Addr) (o : Obj) : GM := fun b => if b = a then some o else G b
theorem upd_self (G : GM) (a : Addr) (o : Obj) : upd G a o a = some o := by simp [upd]
theorem upd_sub {G : GM} {a : Addr} {o : Obj} (hn : G a = none) : GSub G (upd G a o) := fun b x e => by
  unfold upd
  by_cases h : b = a
  · subst h; rw [hn] at e; cases e
  · rw [if_neg h]; exact e
theorem upd_in {G : GM} {h : Heap} {a : Addr} {o : Obj} (g : GIn G h) (e : h.get? a = some o) : GIn (upd G a o) h := fun b x q => by
  unfold upd at q
  by_cases hb : b = a
  · subst hb; rw [if_pos rfl] at q; injection q with q; subst q; exact e
  · rw [if_neg hb] at q; exact g b x q
theorem GIn.fresh' {G : GM} {h : Heap} (g : GIn G h) {a : Addr} (ha : h.get? a = none) : G a = none := by
  cases q : G a with
  | none => rfl
  | some o => rw [g _ _ q] at ha; cases ha
theorem GIn.fresh {G : GM} {h : Heap} (g : GIn G h) : G h.objs.size = none := g.fresh' (Heap.get?_none_of_le (Nat.le_refl _))
theorem Ext.new {G : GM} {h h' : Heap} (g : GIn G h) {a : Addr} {o : Obj} (k : ∀ b x, h.get? b = some x → h'.get? b = some x) (ha : h.get? a = none) (e : h'.get? a = some o) :
    Ext G h (upd G a o) h' := by
  have hn : G a = none := g.fresh' ha
  refine ⟨k, upd_sub hn, fun b x q => ?_, upd_in (g.keeps k) e⟩
  unfold upd at q
  by_cases hb : b = a
  · exact .inr (hb ▸ ha)
  · rw [if_neg hb] at q; exact .inl q
theorem Ext.alloc {G : GM} {h : Heap} (g : GIn G h) (o : Obj) (hf : o.isFreed = false := by rfl) : Ext G h (upd G h.objs.size o) (h.push o) :=
  .new g (fun _ _ e => Heap.get?_push_of_some _ e) (Heap.get?_none_of_le (Nat.le_refl _)) (Heap.get?_push_size _ hf)
theorem isList_of {G : GM} {h : Heap} (g : GIn G h) {a : Addr} {o : Obj} {vs : List Value} {n : Nat} (e : G a = some o) (hc : o.cls = .type "list") (hd : o.data = .seq vs.toArray n) : h.IsList a vs.toArray := ⟨o, g _ _ e, hc, n, hd⟩
theorem isTup_of {G : GM} {h : Heap} (g : GIn G h) {a : Addr} {o : Obj} {vs : List Value} {n : Nat} (e : G a = some o) (hc : o.cls = .type "tuple") (hd : o.data = .seq vs.toArray n) : IsTup h a vs.toArray := ⟨o, g _ _ e, hc, n, hd⟩
noncomputable def OpPost (G : GM) (s : Shared) (r : PV) (Q : Value → Shared → Prop) : Prop :=
  ∀ v G' h' tk, Ext G s.heap G' h' → Rep G' v r → Q v { s with heap := h', toks := tk }
section
variable {prog : Program} {w : World} {A : Around} {E : Value → Shared → Prop} {s : Shared} {G : GM} {Q : Value → Shared → Prop} {r : PV}
theorem OpPost.val (g : GIn G s.heap) (h : OpPost G s r Q) {v : Value} (hr : Rep G v r) (tk : Nat) : Q v { s with toks := tk } := h v G s.heap tk (Ext.refl g) hr
theorem OpPost.val0 (g : GIn G s.heap) (h : OpPost G s r Q) {v : Value} (hr : Rep G v r) : Q v s := h v G s.heap s.toks (Ext.refl g) hr
theorem small_bits {a : Int} (h : a.natAbs < 2 ^ 63) : Builtin.Int.intBits a ≤ 64 := by
  unfold Builtin.Int.intBits
  by_cases h0 : a = 0
  · subst h0; decide
  · have hb : (a == 0) = false := by simpa using h0
    rw [hb]
    have h1 : a.natAbs ≠ 0 := by omega
    have := (Nat.log2_lt (n := a.natAbs) (k := 63) h1).mpr h
    simp only [Bool.false_eq_true, if_false]
    (exact (linL [_] [.s 1 (.v 0) (.n 63)] 1 (.a (.v 0) (.n 1)) (.n 64) rfl this))
theorem list_add_ok {l b : Addr} {vs ws : List Value} (hl : s.heap.IsList l vs.toArray) (hb : s.heap.IsList b ws.toArray) (hsz : vs.length + ws.length ≤ sizeLine)
    (h : Q (.ref s.heap.objs.size) { s with heap := s.heap.push { cls := .type "list", data := .seq (vs ++ ws).toArray } }) : wpAny (model prog w) A (binaryOp .Add (.ref l) (.ref b)) Q E s := by
  rw [← List.append_toArray] at h
  rcases hl with ⟨o₁, g₁, c₁, n₁, d₁⟩
  rcases hb with ⟨o₂, g₂, c₂, n₂, d₂⟩
  cases o₁; cases o₂; cases c₁; cases c₂; cases d₁; cases d₂
  exact concat_meets ⟨_, g₁, rfl⟩ ⟨_, g₂, rfl⟩ noFill_list_add seq_list_add F.slot_list_add F.entry_list_add (F.args_list_add_2 ..) (list_addW _ _ _ _ _ _ _ _ _ _ (by simpa using hsz)) ⟨g₁, g₂, h⟩
theorem list_mul_ok {l : Addr} {vs : List Value} {x : Int} {u : Tok} (hl : s.heap.IsList l vs.toArray) (hlo : 0 ≤ x) (hhi : x < 2 ^ 63) (hsz : vs.length * x.toNat ≤ 2 ^ 24)
    (h : Q (.ref s.heap.objs.size) { s with heap := s.heap.push { cls := .type "list", data := .seq (List.replicate x.toNat vs).flatten.toArray } }) : wpAny (model prog w) A (binaryOp .Mult (.ref l) (.int x u)) Q E s := by
  rcases hl with ⟨o, g, c, n, d⟩
  cases o; cases c; cases d
  have fits : Builtin.List.listFitsIndex x = true := by simp [Builtin.List.listFitsIndex]; omega
  have small : vs.toArray.size * x.toNat ≤ 2 ^ 24 := by simpa using hsz
  -- int.__rmul__ is asked first, and it asks list.__mul__
  have ty := fun s' : Shared => typeIs_int s' x u
  refine wpAny_binaryOp_repeat_ref (T := "list") (U := "int") (by decide) ⟨_, g, rfl⟩ ty noFill_list_mul F.fills_int_mul F.slot_int_rmul repeat_list F.slot_int_index.lookup ?_
  refine call_meets F.slot_int_rmul (ty s) F.entry_int_rmul (F.args_int_rmul_2 ..) (lm_int_rmul_list_any _ _ _ _ _ _ _) ⟨g, rfl, ⟨_, g, rfl⟩, ?_⟩
  refine call_meets F.slot_list_mul ⟨_, g, rfl⟩ F.entry_list_mul (F.args_list_mul_2 ..) (lm_list_mul_any _ _ _ _ _ _ _ (by rw [fits]; decide) (by omega) (by simp [Builtin.List.listTooLong, sizeLine]; omega)) ⟨g, ?_⟩
  rw [listMul_foldl_if]
  exact h
theorem lim_eq : lim = sizeLine := by rw [sizeLine_eq]; rfl
inductive BinForm : Operator → PV → PV → Prop
  | nums (op : Operator) (x y : Int) : BinForm op (.int x) (.int y)
  | addB (x y : List UInt8) : BinForm .Add (.bytes x) (.bytes y)
  | addL (x y : List PV) : BinForm .Add (.list x) (.list y)
  | mulB (x : List UInt8) (y : Int) : BinForm .Mult (.bytes x) (.int y)
  | mulL (x : List PV) (y : Int) : BinForm .Mult (.list x) (.int y)
theorem bin_form {op : Operator} {a b r : PV} (e : binop op a b = some r) : BinForm op a b := by
  cases op with
  | Add =>
    cases a with
    | int x => cases b with
      | int y => exact .nums ..
      | _ => exact noSome e
    | bytes x => cases b with
      | bytes y => exact .addB ..
      | _ => exact noSome e
    | list x => cases b with
      | list y => exact .addL ..
      | _ => exact noSome e
    | _ => exact noSome e
  | Mult =>
    cases a with
    | int x => cases b with
      | int y => exact .nums ..
      | _ => exact noSome e
    | bytes x => cases b with
      | int y => exact .mulB ..
      | _ => exact noSome e
    | list x => cases b with
      | int y => exact .mulL ..
      | _ => exact noSome e
    | _ => exact noSome e
  | Sub =>
    cases a with
    | int x => cases b with
      | int y => exact .nums ..
      | _ => exact noSome e
    | _ => exact noSome e
  | FloorDiv =>
    cases a with
    | int x => cases b with
      | int y => exact .nums ..
      | _ => exact noSome e
    | _ => exact noSome e
  | Mod =>
    cases a with
    | int x => cases b with
      | int y => exact .nums ..
      | _ => exact noSome e
    | _ => exact noSome e
  | Pow =>
    cases a with
    | int x => cases b with
      | int y => exact .nums ..
      | _ => exact noSome e
    | _ => exact noSome e
  | BitAnd =>
    cases a with
    | int x => cases b with
      | int y => exact .nums ..
      | _ => exact noSome e
    | _ => exact noSome e
  | BitOr =>
    cases a with
    | int x => cases b with
      | int y => exact .nums ..
      | _ => exact noSome e
    | _ => exact noSome e
  | BitXor =>
    cases a with
    | int x => cases b with
      | int y => exact .nums ..
      | _ => exact noSome e
    | _ => exact noSome e
  | LShift =>
    cases a with
    | int x => cases b with
      | int y => exact .nums ..
      | _ => exact noSome e
    | _ => exact noSome e
  | RShift =>
    cases a with
    | int x => cases b with
      | int y => exact .nums ..
      | _ => exact noSome e
    | _ => exact noSome e
  | _ => exact noSome e
theorem ints_ok {op : Operator} {x y : Int} {tx ty : Tok} (g : GIn G s.heap) (e : binop op (.int x) (.int y) = some r) (h : OpPost G s r Q) : wpAny (model prog w) A (binaryOp op (.int x tx) (.int y ty)) Q E s := by
  cases op with
  | Add => injection (show some (PV.int (x + y)) = some r from e) with e; subst e; exact P.add_int (h.val g (.int _ _) _)
  | Sub => injection (show some (PV.int (x - y)) = some r from e) with e; subst e; exact P.sub_int (h.val g (.int _ _) _)
  | Mult => obtain ⟨hz, rfl⟩ := ifSome e; exact P.mul_int (h.val g (.int _ _) _) (hz.elim (fun q => .of_left (small_bits q)) fun q => .of_right (small_bits q))
  | FloorDiv => obtain ⟨hz, rfl⟩ := ifSome e; exact floordiv_int hz.1 (h.val g (.int _ _) _) (.inl (PyProof.noPylong_small hz.2))
  | Mod => obtain ⟨hz, rfl⟩ := ifSome e; exact mod_int' hz.1 (h.val g (.int _ _) _)
  | Pow => obtain ⟨hz, rfl⟩ := ifSome e; exact pow_int_small hz.1 hz.2.1 hz.2.2 (h.val g (.int _ _) _)
  | BitAnd => injection (show some (PV.int (Builtin.bitAnd x y)) = some r from e) with e; subst e; exact and_int (h.val g (.int _ _) _)
  | BitOr => injection (show some (PV.int (Builtin.bitOr x y)) = some r from e) with e; subst e; exact or_int (h.val g (.int _ _) _)
  | BitXor => injection (show some (PV.int (Builtin.bitXor x y)) = some r from e) with e; subst e; exact xor_int (h.val g (.int _ _) _)
  | LShift => obtain ⟨hz, rfl⟩ := ifSome e; exact lshift_int_small hz.1 hz.2.1 hz.2.2 (h.val g (.int _ _) _)
  | RShift => obtain ⟨hz, rfl⟩ := ifSome e; exact rshift_int hz (h.val g (.int _ _) _)
  | _ => exact noSome e
theorem binop_ok {op : Operator} {a b : PV} {va vb : Value} (g : GIn G s.heap) (ra : Rep G va a) (rb : Rep G vb b) (e : binop op a b = some r) (h : OpPost G s r Q) :
    wpAny (model prog w) A (binaryOp op va vb) Q E s := by
  cases bin_form e with
  | nums op x y =>
    obtain ⟨_, rfl⟩ := ra.inv_int; obtain ⟨_, rfl⟩ := rb.inv_int
    exact ints_ok g e h
  | addB x y =>
    obtain ⟨hz, rfl⟩ := ifSome e
    obtain ⟨_, rfl⟩ := ra.inv_bytes; obtain ⟨_, rfl⟩ := rb.inv_bytes
    refine KBy.add_bytes (by simpa [lim] using hz) fun t' k => ?_
    rw [List.append_toArray]
    exact h.val g (.bytes _ _) _
  | addL x y =>
    obtain ⟨hz, rfl⟩ := ifSome e
    cases ra.lst with | mk a1 o1 vs n1 ea ca dna da la => cases rb.lst with | mk a2 o2 us n2 eb cb dnb db lb =>
    refine list_add_ok (isList_of g ea ca da) (isList_of g eb cb db) (by rw [la.length, lb.length, ← lim_eq]; exact hz) ?_
    exact h _ _ _ s.toks (Ext.alloc g _) (.list (upd_self ..) rfl rfl rfl ((la.append lb).mono (upd_sub g.fresh)))
  | mulB x y =>
    obtain ⟨hz, rfl⟩ := ifSome e
    obtain ⟨_, rfl⟩ := ra.inv_bytes; obtain ⟨_, rfl⟩ := rb.inv_int
    exact bytes_mul_any hz.1 (by omega) (by omega) hz.2.1 fun t' k => h.val g (.bytes _ _) _
  | mulL x y =>
    obtain ⟨hz, rfl⟩ := ifSome e
    obtain ⟨_, rfl⟩ := rb.inv_int
    cases ra.lst with | mk aa oa vs na ea ca dna da la =>
    have hl := la.length
    refine list_mul_ok (isList_of g ea ca da) hz.1 (by omega) ?_ ?_
    · have h1 := hz.2.2
      rw [← hl] at h1
      have h2 := Nat.mul_le_mul h1 (show Int.toNat _ ≤ 1024 from Int.toNat_le.mpr hz.2.1)
      (exact (linL [_] [.l 1 (.v 0) (.m 16 (.n 1024))] 1 (.v 0) (.n (2 ^ 24)) rfl h2))
    · exact h _ _ _ s.toks (Ext.alloc g _) (.list (upd_self ..) rfl rfl rfl ((la.replicate _).mono (upd_sub g.fresh)))
end
end Mine
set_option maxRecDepth 100000
set_option linter.unusedVariables false
namespace Mine
open PySem PyProof.Rows PySem.W PySem.SeqAt
section
variable {prog : Program} {w : World} {A : Around} {E : Value → Shared → Prop} {s : Shared} {G : GM} {Q : Value → Shared → Prop} {r : PV}
theorem eqAt_bytes (a b : Array UInt8) (t u : Tok) : EqAt A s (.bytes a t) (.bytes b u) (a.toList == b.toList) := fun prog w E Q h =>
  eqBool_bytes (by rw [show decide (a.toList = b.toList) = (a.toList == b.toList) from by rw [Bool.eq_iff_iff]; simp]; exact h)
noncomputable def ofV : Value → Option PV
  | .none => some .none
  | .bool b => some (.bool b)
  | .int i _ => some (.int i)
  | .str x _ => some (.str x)
  | .bytes b _ => some (.bytes b.toList)
  | .type n => some (.type n)
  | _ => none
noncomputable def isRefV : Value → Bool
  | .ref _ => true
  | _ => false
theorem Rep.atom {G : GM} {v : Value} {a : PV} (h : Rep G v a) (hr : isRefV v = false) : ofV v = some a := by
  cases h with
  | tuple => exact noTrue hr.symm
  | list => exact noTrue hr.symm
  | _ => rfl
inductive RefAt (G : GM) (a : Addr) : PV → Prop
  | tup (xs : List PV) (h : TupAt G xs (.ref a)) : RefAt G a (.tuple xs)
  | lst (xs : List PV) (h : ListAt G xs (.ref a)) : RefAt G a (.list xs)
theorem Rep.at {G : GM} {v : Value} {p : PV} (h : Rep G v p) {a : Addr} (hv : v = .ref a) : RefAt G a p := by
  cases h with
  | tuple e c d l => cases hv; exact .tup _ (.mk _ _ _ _ e c d l)
  | list e c n d l => cases hv; exact .lst _ (.mk _ _ _ _ e c n d l)
  | _ => exact Value.noConfusion hv
theorem data_eq {o : Obj} {vs us : List Value} {n m : Nat} (d : o.data = .seq vs.toArray n) (d' : o.data = .seq us.toArray m) : us = vs := by
  rw [d] at d'; injection d' with h1 _; exact (List.toArray_inj h1).symm
theorem cls_ne {o : Obj} (c : o.cls = .type "tuple") (c' : o.cls = .type "list") {P : Prop} : P := by
  rw [c] at c'; injection c' with q; exact absurd q (by decide)
theorem uniq_tup {G : GM} {a : Addr} {o : Obj} {vs : List Value} {n : Nat} {xs : List PV} (e : G a = some o) (c : o.cls = .type "tuple") (d : o.data = .seq vs.toArray n) (l : ∀ ys, RepL G vs ys → xs = ys) (b : PV) (h : Rep G (.ref a) b) : PV.tuple xs = b := by
  cases h.at rfl with
  | tup ys hh =>
    cases hh with | mk a o' us m e' c' d' l' =>
    rw [e] at e'; injection e' with e'; subst e'
    rw [data_eq d d'] at l'; rw [l ys l']
  | lst ys hh =>
    cases hh with | mk a o' us m e' c' dn' d' l' =>
    rw [e] at e'; injection e' with e'; subst e'
    exact cls_ne c c'
theorem uniq_lst {G : GM} {a : Addr} {o : Obj} {vs : List Value} {n : Nat} {xs : List PV} (e : G a = some o) (c : o.cls = .type "list") (d : o.data = .seq vs.toArray n) (l : ∀ ys, RepL G vs ys → xs = ys) (b : PV) (h : Rep G (.ref a) b) : PV.list xs = b := by
  cases h.at rfl with
  | lst ys hh =>
    cases hh with | mk a o' us m e' c' dn' d' l' =>
    rw [e] at e'; injection e' with e'; subst e'
    rw [data_eq d d'] at l'; rw [l ys l']
  | tup ys hh =>
    cases hh with | mk a o' us m e' c' d' l' =>
    rw [e] at e'; injection e' with e'; subst e'
    exact cls_ne c' c
theorem uniq_cons {G : GM} {v : Value} {vs : List Value} {x : PV} {xs : List PV} (h : ∀ y, Rep G v y → x = y) (r : ∀ ys, RepL G vs ys → xs = ys) (ys : List PV) (k : RepL G (v :: vs) ys) : x :: xs = ys := by
  cases k with | cons h' r' => rw [h _ h', r _ r']
theorem uniq_at {G : GM} {v : Value} {a : PV} (hv : ofV v = some a) (hr : isRefV v = false) (b : PV) (h : Rep G v b) : a = b := Option.some.inj (hv.symm.trans (h.atom hr))
theorem Rep.uniq' {G : GM} {v : Value} {a : PV} (h : Rep G v a) : ∀ b, Rep G v b → a = b :=
  Rep.rec (motive_1 := fun v a _ => ∀ b, Rep G v b → a = b) (motive_2 := fun vs xs _ => ∀ ys, RepL G vs ys → xs = ys) (uniq_at rfl rfl) (fun _ => uniq_at rfl rfl) (fun _ _ => uniq_at rfl rfl) (fun _ _ => uniq_at rfl rfl) (fun _ _ => uniq_at rfl rfl) (fun _ => uniq_at rfl rfl)
    (fun e c d _ l => uniq_tup e c d l) (fun e c _ d _ l => uniq_lst e c d l) (fun ys k => by cases k; rfl) (fun _ _ h r => uniq_cons h r) h
theorem Rep.uniq {G : GM} {v : Value} {a b : PV} (h : Rep G v a) (k : Rep G v b) : a = b := h.uniq' b k
inductive EqSh : Nat → PV → PV → Bool → Prop
  | none (n : Nat) : EqSh n .none .none true
  | bool (n : Nat) (x y : Bool) : EqSh n (.bool x) (.bool y) (x == y)
  | int (n : Nat) (x y : Int) : EqSh n (.int x) (.int y) (x == y)
  | str (n : Nat) (x y : Str) : EqSh n (.str x) (.str y) (x == y)
  | bytes (n : Nat) (x y : List UInt8) : EqSh n (.bytes x) (.bytes y) (x == y)
  | tuple (n : Nat) (xs ys : List PV) (k : Bool) : eqL (eqF n) xs ys = some k → EqSh (n + 1) (.tuple xs) (.tuple ys) k
  | list (n : Nat) (xs ys : List PV) (k : Bool) : (if xs.length = ys.length then eqL (eqF n) xs ys else some false) = some k → EqSh (n + 1) (.list xs) (.list ys) k
theorem eqF_sh {n : Nat} {a b : PV} {k : Bool} (h : eqF n a b = some k) : EqSh n a b k := by
  cases n with
  | zero =>
    cases a with
    | none =>
      cases b with
      | none => cases (show some true = some k from h); exact .none _
      | _ => exact noSome h
    | bool x =>
      cases b with
      | bool y => cases (show some (x == y) = some k from h); exact .bool _ _ _
      | _ => exact noSome h
    | int x =>
      cases b with
      | int y => cases (show some (x == y) = some k from h); exact .int _ _ _
      | _ => exact noSome h
    | str x =>
      cases b with
      | str y => cases (show some (x == y) = some k from h); exact .str _ _ _
      | _ => exact noSome h
    | bytes x =>
      cases b with
      | bytes y => cases (show some (x == y) = some k from h); exact .bytes _ _ _
      | _ => exact noSome h
    | _ => cases b <;> exact noSome h
  | succ n =>
    cases a with
    | none =>
      cases b with
      | none => cases (show some true = some k from h); exact .none _
      | _ => exact noSome h
    | bool x =>
      cases b with
      | bool y => cases (show some (x == y) = some k from h); exact .bool _ _ _
      | _ => exact noSome h
    | int x =>
      cases b with
      | int y => cases (show some (x == y) = some k from h); exact .int _ _ _
      | _ => exact noSome h
    | str x =>
      cases b with
      | str y => cases (show some (x == y) = some k from h); exact .str _ _ _
      | _ => exact noSome h
    | bytes x =>
      cases b with
      | bytes y => cases (show some (x == y) = some k from h); exact .bytes _ _ _
      | _ => exact noSome h
    | tuple x =>
      cases b with
      | tuple y => exact .tuple _ _ _ _ h
      | _ => exact noSome h
    | list x =>
      cases b with
      | list y => exact .list _ _ _ _ h
      | _ => exact noSome h
    | _ => cases b <;> exact noSome h
theorem eqL_cons {f : PV → PV → Option Bool} {a b : PV} {r q : List PV} {k : Bool} (h : eqL f (a :: r) (b :: q) = some k) : ∃ x y, f a b = some x ∧ eqL f r q = some y ∧ k = (x && y) := by
  replace h : (match f a b, eqL f r q with
    | some x, some y => some (x && y)
    | _, _ => none) = some k := h
  cases hx : f a b with
  | none => rw [hx] at h; exact noSome h
  | some x =>
    rw [hx] at h
    cases hy : eqL f r q with
    | none => rw [hy] at h; exact noSome h
    | some y => rw [hy] at h; exact ⟨x, y, rfl, rfl, (Option.some.inj h).symm⟩
theorem eqL_refl {f : PV → PV → Option Bool} (hf : ∀ a k, f a a = some k → k = true) : ∀ (l : List PV) (k : Bool), eqL f l l = some k → k = true
  | [], k, h => (Option.some.inj (show some true = some k from h)).symm
  | a :: l, k, h => by
    obtain ⟨x, y, hx, hy, hk⟩ := eqL_cons h
    have h1 := hf a x hx
    have h2 := eqL_refl hf l y hy
    subst h1 h2
    exact hk
theorem eqF_refl : ∀ (n : Nat) (a : PV) (k : Bool), eqF n a a = some k → k = true := by
  intro n
  induction n with
  | zero => intro a k h; cases eqF_sh h with
    | none => rfl
    | _ => exact beq_self_eq_true _
  | succ n ih =>
    intro a k h
    cases eqF_sh h with
    | none => rfl
    | tuple _ xs _ _ h => exact eqL_refl ih xs k h
    | list _ xs _ _ h => rw [if_pos rfl] at h; exact eqL_refl ih xs k h
    | _ => exact beq_self_eq_true _
theorem eqL_at {f : PV → PV → Option Bool} : ∀ (xs ys : List PV) (k : Bool), xs.length = ys.length → eqL f xs ys = some k →
    ∃ e : Nat → Bool, (∀ j x y, xs[j]? = some x → ys[j]? = some y → f x y = some (e j)) ∧ k = (List.range xs.length).all e
  | [], [], k, _, h => ⟨fun _ => true, fun _ _ _ q _ => noSome q, (Option.some.inj (show some true = some k from h)).symm⟩
  | [], _ :: _, _, hl, _ => by simp at hl
  | _ :: _, [], _, hl, _ => by simp at hl
  | a :: r, b :: q, k, hl, h => by
    obtain ⟨x, y, hx, hy, hk⟩ := eqL_cons h
    obtain ⟨e, h1, h2⟩ := eqL_at r q y (Nat.succ.inj hl) hy
    refine ⟨fun j => Nat.casesOn j x e, ?_, ?_⟩
    · intro j u v hu hv
      cases j with
      | zero => cases hu; cases hv; exact hx
      | succ j => exact h1 j u v hu hv
    · rw [hk, h2, List.length_cons, List.range_succ_eq_map, List.all_cons, List.all_map]
      rfl
theorem eqL_ne {f : PV → PV → Option Bool} : ∀ (xs ys : List PV) (k : Bool), xs.length ≠ ys.length → eqL f xs ys = some k →
    k = false ∧ ∃ e : Nat → Bool, (∀ j x y, xs[j]? = some x → ys[j]? = some y → f x y = some (e j))
  | [], [], _, hl, _ => by simp at hl
  | [], _ :: _, k, _, h => ⟨(Option.some.inj (show some false = some k from h)).symm, fun _ => true, fun _ _ _ q _ => noSome q⟩
  | _ :: _, [], k, _, h => ⟨(Option.some.inj (show some false = some k from h)).symm, fun _ => true, fun _ _ _ _ q => noSome q⟩
  | a :: r, b :: q, k, hl, h => by
    obtain ⟨x, y, hx, hy, hk⟩ := eqL_cons h
    obtain ⟨h1, e, h2⟩ := eqL_ne r q y (fun w => hl (congrArg (· + 1) w)) hy
    refine ⟨by rw [hk, h1, Bool.and_false], fun j => Nat.casesOn j x e, ?_⟩
    intro j u v hu hv
    cases j with
    | zero => cases hu; cases hv; exact hx
    | succ j => exact h2 j u v hu hv
theorem items_at {vs : List Value} {j : Nat} (h : j < vs.toArray.size) : vs[j]? = some vs.toArray[j] := by
  have h' : j < vs.length := by simpa using h
  rw [List.getElem?_eq_getElem h']
  simp
theorem eqAt_rep : ∀ (n : Nat) {A : Around} {s : Shared} {G : GM} {a b : PV} {va vb : Value} {k : Bool}, GIn G s.heap → A.units + n < cLine → Rep G va a → Rep G vb b → eqF n a b = some k → EqAt A s va vb k := by
  intro n A s G a b va vb k g hu ra rb e
  induction n generalizing A s G a b va vb k with
  | zero =>
    cases eqF_sh e with
    | none => rw [ra.inv_none, rb.inv_none]; exact EqAt.same _
    | bool => rw [ra.inv_bool, rb.inv_bool]; exact EqAt.bool_bool _ _
    | int => obtain ⟨_, rfl⟩ := ra.inv_int; obtain ⟨_, rfl⟩ := rb.inv_int; exact EqAt.int_int _ _ _ _
    | str => obtain ⟨_, rfl⟩ := ra.inv_str; obtain ⟨_, rfl⟩ := rb.inv_str; exact EqAt.str_str _ _ _ _
    | bytes => obtain ⟨_, rfl⟩ := ra.inv_bytes; obtain ⟨_, rfl⟩ := rb.inv_bytes; exact eqAt_bytes _ _ _ _
  | succ n ih =>
    have hu' : A.in1.units + n < cLine := by show A.units + 1 + n < cLine; (exact (linS [_, _, _] [.s 1 (.a (.v 0) (.a (.v 1) (.n 1))) (.v 2)] 1 (.a (.a (.v 0) (.n 1)) (.v 1)) (.v 2) rfl hu))
    cases eqF_sh e with
    | none => rw [ra.inv_none, rb.inv_none]; exact EqAt.same _
    | bool => rw [ra.inv_bool, rb.inv_bool]; exact EqAt.bool_bool _ _
    | int => obtain ⟨_, rfl⟩ := ra.inv_int; obtain ⟨_, rfl⟩ := rb.inv_int; exact EqAt.int_int _ _ _ _
    | str => obtain ⟨_, rfl⟩ := ra.inv_str; obtain ⟨_, rfl⟩ := rb.inv_str; exact EqAt.str_str _ _ _ _
    | bytes => obtain ⟨_, rfl⟩ := ra.inv_bytes; obtain ⟨_, rfl⟩ := rb.inv_bytes; exact eqAt_bytes _ _ _ _
    | tuple _ xa xb _ he =>
      cases ra.tpl with | mk aa oa va na ea ca da la =>
      cases rb.tpl with | mk ab ob vb nb eb cb db lb =>
      by_cases hab : aa = ab
      · subst hab
        have q := Rep.uniq (Rep.tuple ea ca da la) (Rep.tuple eb cb db lb)
        rw [q] at e
        rw [eqF_refl _ _ _ e]
        exact EqAt.same _
      · have e := he
        by_cases hl : xa.length = xb.length
        · obtain ⟨el, h1, h2⟩ := eqL_at xa xb k hl e
          have q := RcAt.tuples (A := A) (s := s) (e := el) (isTup_of g ea ca da) (isTup_of g eb cb db) (by (exact (linS [_, _, _] [.s 1 (.a (.v 0) (.a (.v 1) (.n 1))) (.v 2)] 1 (.v 0) (.v 2) rfl hu))) (fun j j1 j2 => by
            obtain ⟨x, hx, rx⟩ := la.get' (items_at j1)
            obtain ⟨y, hy, ry⟩ := lb.get' (items_at j2)
            exact ih g hu' rx ry (h1 j x y hx hy))
          have e1 : va.toArray.size = xa.length := by simp [la.length]
          have e2 : vb.toArray.size = xb.length := by simp [lb.length]
          rw [e1, e2, hl, Nat.min_self, beq_self_eq_true, Bool.and_true, ← hl, ← h2] at q
          exact EqAt.of_refs hab q
        · obtain ⟨h1, el, h2⟩ := eqL_ne xa xb k hl e
          have q := RcAt.tuples (A := A) (s := s) (e := el) (isTup_of g ea ca da) (isTup_of g eb cb db) (by (exact (linS [_, _, _] [.s 1 (.a (.v 0) (.a (.v 1) (.n 1))) (.v 2)] 1 (.v 0) (.v 2) rfl hu))) (fun j j1 j2 => by
            obtain ⟨x, hx, rx⟩ := la.get' (items_at j1)
            obtain ⟨y, hy, ry⟩ := lb.get' (items_at j2)
            exact ih g hu' rx ry (h2 j x y hx hy))
          have e1 : va.toArray.size = xa.length := by simp [la.length]
          have e2 : vb.toArray.size = xb.length := by simp [lb.length]
          have e3 : (xa.length == xb.length) = false := by simpa using hl
          rw [e1, e2, e3, Bool.and_false] at q
          rw [h1]
          exact EqAt.of_refs hab q
    | list _ xa xb _ he =>
      cases ra.lst with | mk aa oa va na ea ca dna da la =>
      cases rb.lst with | mk ab ob vb nb eb cb dnb db lb =>
      by_cases hab : aa = ab
      · subst hab
        have q := Rep.uniq (Rep.list ea ca dna da la) (Rep.list eb cb dnb db lb)
        rw [q] at e
        rw [eqF_refl _ _ _ e]
        exact EqAt.same _
      · have e := he
        have e1 : va.toArray.size = xa.length := by simp [la.length]
        have e2 : vb.toArray.size = xb.length := by simp [lb.length]
        by_cases hl : xa.length = xb.length
        · rw [if_pos hl] at e
          obtain ⟨el, h1, h2⟩ := eqL_at xa xb k hl e
          have q := RcAt.lists (A := A) (s := s) (e := el) (isList_of g ea ca da) (isList_of g eb cb db) (by rw [e1, e2, hl]) (by (exact (linS [_, _, _] [.s 1 (.a (.v 0) (.a (.v 1) (.n 1))) (.v 2)] 1 (.v 0) (.v 2) rfl hu))) (fun j j1 j2 => by
            obtain ⟨x, hx, rx⟩ := la.get' (items_at j1)
            obtain ⟨y, hy, ry⟩ := lb.get' (items_at j2)
            exact ih g hu' rx ry (h1 j x y hx hy))
          rw [e1, ← h2] at q
          exact EqAt.of_refs hab q
        · rw [if_neg hl] at e
          injection e with e
          subst e
          exact EqAt.of_refs hab (RcAt.lists_lengths (isList_of g ea ca da) (isList_of g eb cb db) (by rw [e1, e2]; simpa using hl) (by (exact (linS [_, _, _] [.s 1 (.a (.v 0) (.a (.v 1) (.n 1))) (.v 2)] 1 (.v 0) (.v 2) rfl hu))))
end
end Mine
set_option maxRecDepth 100000
set_option linter.unusedVariables false
namespace Mine
open PySem PyProof.Rows PySem.W PySem.SeqAt
section
variable {prog : Program} {w : World} {A : Around} {E : Value → Shared → Prop} {s : Shared} {G : GM} {Q : Value → Shared → Prop} {r : PV}
theorem rcAt_rep {n : Nat} {a b : PV} {va vb : Value} {k : Bool} (g : GIn G s.heap) (hu : A.units + n < cLine) (ra : Rep G va a) (rb : Rep G vb b) (e : eqF n a b = some k) : RcAt A s va vb k := by
  cases eqF_sh e with
  | none => rw [ra.inv_none, rb.inv_none]; exact RcAt.none_none
  | bool => rw [ra.inv_bool, rb.inv_bool]; exact RcAt.bool_bool _ _
  | int => obtain ⟨_, rfl⟩ := ra.inv_int; obtain ⟨_, rfl⟩ := rb.inv_int; exact RcAt.int_int _ _ _ _
  | str => obtain ⟨_, rfl⟩ := ra.inv_str; obtain ⟨_, rfl⟩ := rb.inv_str; exact RcAt.str_str _ _ _ _
  | bytes => obtain ⟨_, rfl⟩ := ra.inv_bytes; obtain ⟨_, rfl⟩ := rb.inv_bytes; exact fun prog w E Q h => eq_bytes h
  | tuple n xa xb _ he =>
    cases ra.tpl with | mk aa oa va na ea ca da la =>
    cases rb.tpl with | mk ab ob vb nb eb cb db lb =>
    have hu' : A.in1.units + n < cLine := by show A.units + 1 + n < cLine; (exact (linS [_, _, _] [.s 1 (.a (.v 0) (.a (.v 1) (.n 1))) (.v 2)] 1 (.a (.a (.v 0) (.n 1)) (.v 1)) (.v 2) rfl hu))
    have e := he
    have e1 : va.toArray.size = xa.length := by simp [la.length]
    have e2 : vb.toArray.size = xb.length := by simp [lb.length]
    by_cases hl : xa.length = xb.length
    · obtain ⟨el, h1, h2⟩ := eqL_at xa xb k hl e
      have q := RcAt.tuples (A := A) (s := s) (e := el) (isTup_of g ea ca da) (isTup_of g eb cb db) (by (exact (linS [_, _, _] [.s 1 (.a (.v 0) (.a (.v 1) (.n 1))) (.v 2)] 1 (.v 0) (.v 2) rfl hu))) (fun j j1 j2 => by
        obtain ⟨x, hx, rx⟩ := la.get' (items_at j1)
        obtain ⟨y, hy, ry⟩ := lb.get' (items_at j2)
        exact eqAt_rep n g hu' rx ry (h1 j x y hx hy))
      rw [e1, e2, hl, Nat.min_self, beq_self_eq_true, Bool.and_true, ← hl, ← h2] at q
      exact q
    · obtain ⟨h1, el, h2⟩ := eqL_ne xa xb k hl e
      have q := RcAt.tuples (A := A) (s := s) (e := el) (isTup_of g ea ca da) (isTup_of g eb cb db) (by (exact (linS [_, _, _] [.s 1 (.a (.v 0) (.a (.v 1) (.n 1))) (.v 2)] 1 (.v 0) (.v 2) rfl hu))) (fun j j1 j2 => by
        obtain ⟨x, hx, rx⟩ := la.get' (items_at j1)
        obtain ⟨y, hy, ry⟩ := lb.get' (items_at j2)
        exact eqAt_rep n g hu' rx ry (h2 j x y hx hy))
      have e3 : (xa.length == xb.length) = false := by simpa using hl
      rw [e1, e2, e3, Bool.and_false] at q
      rw [h1]
      exact q
  | list n xa xb _ he =>
    cases ra.lst with | mk aa oa va na ea ca dna da la =>
    cases rb.lst with | mk ab ob vb nb eb cb dnb db lb =>
    have hu' : A.in1.units + n < cLine := by show A.units + 1 + n < cLine; (exact (linS [_, _, _] [.s 1 (.a (.v 0) (.a (.v 1) (.n 1))) (.v 2)] 1 (.a (.a (.v 0) (.n 1)) (.v 1)) (.v 2) rfl hu))
    have e := he
    have e1 : va.toArray.size = xa.length := by simp [la.length]
    have e2 : vb.toArray.size = xb.length := by simp [lb.length]
    by_cases hl : xa.length = xb.length
    · rw [if_pos hl] at e
      obtain ⟨el, h1, h2⟩ := eqL_at xa xb k hl e
      have q := RcAt.lists (A := A) (s := s) (e := el) (isList_of g ea ca da) (isList_of g eb cb db) (by rw [e1, e2, hl]) (by (exact (linS [_, _, _] [.s 1 (.a (.v 0) (.a (.v 1) (.n 1))) (.v 2)] 1 (.v 0) (.v 2) rfl hu))) (fun j j1 j2 => by
        obtain ⟨x, hx, rx⟩ := la.get' (items_at j1)
        obtain ⟨y, hy, ry⟩ := lb.get' (items_at j2)
        exact eqAt_rep n g hu' rx ry (h1 j x y hx hy))
      rw [e1, ← h2] at q
      exact q
    · rw [if_neg hl] at e
      injection e with e
      subst e
      exact RcAt.lists_lengths (isList_of g ea ca da) (isList_of g eb cb db) (by rw [e1, e2]; simpa using hl) (by (exact (linS [_, _, _] [.s 1 (.a (.v 0) (.a (.v 1) (.n 1))) (.v 2)] 1 (.v 0) (.v 2) rfl hu)))
theorem rcNe_rep {n : Nat} {a b : PV} {va vb : Value} {k : Bool} (g : GIn G s.heap) (hu : A.units + n < cLine) (ra : Rep G va a) (rb : Rep G vb b) (e : eqF n a b = some k) : RcNeAt A s va vb (!k) := by
  cases eqF_sh e with
  | none => rw [ra.inv_none, rb.inv_none]; exact RcNeAt.none_none
  | bool => rw [ra.inv_bool, rb.inv_bool]; exact RcNeAt.bool_bool _ _
  | int => obtain ⟨_, rfl⟩ := ra.inv_int; obtain ⟨_, rfl⟩ := rb.inv_int; exact RcNeAt.int_int _ _ _ _
  | str => obtain ⟨_, rfl⟩ := ra.inv_str; obtain ⟨_, rfl⟩ := rb.inv_str; exact RcNeAt.str_str _ _ _ _
  | bytes => obtain ⟨_, rfl⟩ := ra.inv_bytes; obtain ⟨_, rfl⟩ := rb.inv_bytes; exact fun prog w E Q h => ne_bytes h
  | tuple n xa xb _ he =>
    cases ra.tpl with | mk aa oa va na ea ca da la =>
    cases rb.tpl with | mk ab ob vb nb eb cb db lb =>
    have hu' : A.in1.units + n < cLine := by show A.units + 1 + n < cLine; (exact (linS [_, _, _] [.s 1 (.a (.v 0) (.a (.v 1) (.n 1))) (.v 2)] 1 (.a (.a (.v 0) (.n 1)) (.v 1)) (.v 2) rfl hu))
    have e := he
    have e1 : va.toArray.size = xa.length := by simp [la.length]
    have e2 : vb.toArray.size = xb.length := by simp [lb.length]
    by_cases hl : xa.length = xb.length
    · obtain ⟨el, h1, h2⟩ := eqL_at xa xb k hl e
      have q := RcNeAt.tuples (A := A) (s := s) (e := el) (isTup_of g ea ca da) (isTup_of g eb cb db) (by (exact (linS [_, _, _] [.s 1 (.a (.v 0) (.a (.v 1) (.n 1))) (.v 2)] 1 (.v 0) (.v 2) rfl hu))) (fun j j1 j2 => by
        obtain ⟨x, hx, rx⟩ := la.get' (items_at j1)
        obtain ⟨y, hy, ry⟩ := lb.get' (items_at j2)
        exact eqAt_rep n g hu' rx ry (h1 j x y hx hy))
      rw [e1, e2, hl, Nat.min_self, beq_self_eq_true, Bool.and_true, ← hl, ← h2] at q
      exact q
    · obtain ⟨h1, el, h2⟩ := eqL_ne xa xb k hl e
      have q := RcNeAt.tuples (A := A) (s := s) (e := el) (isTup_of g ea ca da) (isTup_of g eb cb db) (by (exact (linS [_, _, _] [.s 1 (.a (.v 0) (.a (.v 1) (.n 1))) (.v 2)] 1 (.v 0) (.v 2) rfl hu))) (fun j j1 j2 => by
        obtain ⟨x, hx, rx⟩ := la.get' (items_at j1)
        obtain ⟨y, hy, ry⟩ := lb.get' (items_at j2)
        exact eqAt_rep n g hu' rx ry (h2 j x y hx hy))
      have e3 : (xa.length == xb.length) = false := by simpa using hl
      rw [e1, e2, e3, Bool.and_false] at q
      rw [h1]
      exact q
  | list n xa xb _ he =>
    cases ra.lst with | mk aa oa va na ea ca dna da la =>
    cases rb.lst with | mk ab ob vb nb eb cb dnb db lb =>
    have hu' : A.in1.units + n < cLine := by show A.units + 1 + n < cLine; (exact (linS [_, _, _] [.s 1 (.a (.v 0) (.a (.v 1) (.n 1))) (.v 2)] 1 (.a (.a (.v 0) (.n 1)) (.v 1)) (.v 2) rfl hu))
    have e := he
    have e1 : va.toArray.size = xa.length := by simp [la.length]
    have e2 : vb.toArray.size = xb.length := by simp [lb.length]
    by_cases hl : xa.length = xb.length
    · rw [if_pos hl] at e
      obtain ⟨el, h1, h2⟩ := eqL_at xa xb k hl e
      have q := RcNeAt.lists (A := A) (s := s) (e := el) (isList_of g ea ca da) (isList_of g eb cb db) (by rw [e1, e2, hl]) (by (exact (linS [_, _, _] [.s 1 (.a (.v 0) (.a (.v 1) (.n 1))) (.v 2)] 1 (.v 0) (.v 2) rfl hu))) (fun j j1 j2 => by
        obtain ⟨x, hx, rx⟩ := la.get' (items_at j1)
        obtain ⟨y, hy, ry⟩ := lb.get' (items_at j2)
        exact eqAt_rep n g hu' rx ry (h1 j x y hx hy))
      rw [e1, ← h2] at q
      exact q
    · rw [if_neg hl] at e
      injection e with e
      subst e
      exact RcNeAt.lists_lengths (isList_of g ea ca da) (isList_of g eb cb db) (by rw [e1, e2]; simpa using hl) (by (exact (linS [_, _, _] [.s 1 (.a (.v 0) (.a (.v 1) (.n 1))) (.v 2)] 1 (.v 0) (.v 2) rfl hu)))
theorem bytes_ne_declines_str (a : Array UInt8) (t : Tok) (b : Str) (u : Tok) : Gives (Builtin.«bytes.__ne__» ⟨[.bytes a t, .str b u], []⟩) (.val (Value.notImplemented)) :=
  .of_wp fun M A E s Q h => by obtain ⟨hp, g, d, tk, os⟩ := s; have f1 := PySem.F.sub_str_bytes; wp_walk; exact ⟨_, rfl, h⟩
theorem str_ne_declines_bytes (a : Array UInt8) (t : Tok) (b : Str) (u : Tok) : Gives (Builtin.«str.__ne__» ⟨[.str b u, .bytes a t], []⟩) (.val (Value.notImplemented)) :=
  .of_wp fun M A E s Q h => by obtain ⟨hp, g, d, tk, os⟩ := s; wp_walk; exact ⟨_, rfl, h⟩
theorem rcNe_bytes_str (a : Array UInt8) (t : Tok) (b : Str) (u : Tok) : RcNeAt A s (.bytes a t) (.str b u) true := fun prog w E Q h =>
  rc_ne_decline_or (k := false) (typeIs_bytes s a t) (typeIs_str s b u) (by decide) PySem.F.sub_str_bytes FB.slot_bytes_ne F.slot_str_ne_refl
    (fun _ hq => call_gives FB.slot_bytes_ne (typeIs_bytes s a t) FB.entry_bytes_ne (FB.args_bytes_ne_2 _ _) (bytes_ne_declines_str a t b u) hq)
    (fun _ hq => call_gives F.slot_str_ne_refl (typeIs_str s b u) F.entry_str_ne (F.args_str_ne_2 _ _) (str_ne_declines_bytes a t b u) hq)
    (fun _ hq => wpAny_of_eq (rfl : isSame (.bytes a t) (.str b u) = pure false) hq) (.inl rfl) h
theorem memP_any {x : PV} {vx : Value} (g : GIn G s.heap) (hu : A.units + 8 < cLine) (rx : Rep G vx x) : ∀ {vs : List Value} {xs : List PV} {k : Bool}, RepL G vs xs → memP x xs = some k →
    ∃ e : Value → Bool, (∀ y ∈ vs, EqAt A s y vx (e y)) ∧ k = vs.any e := by
  classical
  intro vs xs k h hk
  refine ⟨fun v => if q : ∃ y, Rep G v y then (eqP q.choose x).getD false else false, ?_, ?_⟩
  · intro v hv
    induction vs generalizing xs k with
    | nil => cases hv
    | cons v' vs' ih =>
      cases h with | @cons _ _ y ys ry rs =>
      unfold memP at hk
      split at hk
      · rename_i a b h1 h2
        cases hv with
        | head =>
          have q : ∃ y, Rep G v y := ⟨y, ry⟩
          have hy : q.choose = y := Rep.uniq q.choose_spec ry
          simp only [dif_pos q, hy, h1, Option.getD_some]
          exact eqAt_rep 8 g hu ry rx h1
        | tail _ hv => exact ih rs h2 hv
      · cases hk
  · induction vs generalizing xs k with
    | nil => cases h; simp [memP] at hk; simp [hk]
    | cons v' vs' ih =>
      cases h with | @cons _ _ y ys ry rs =>
      unfold memP at hk
      split at hk
      · rename_i a b h1 h2
        injection hk with hk
        have q : ∃ y, Rep G v' y := ⟨y, ry⟩
        have hy : q.choose = y := Rep.uniq q.choose_spec ry
        rw [List.any_cons, ← ih rs h2]
        simp only [dif_pos q, hy, h1, Option.getD_some, hk]
      · cases hk
theorem in_list_ok {x : PV} {vx : Value} {l : Addr} {vs : List Value} {xs : List PV} {k : Bool} (g : GIn G s.heap) (hu : A.units + 16 < cLine) (rx : Rep G vx x) (hl : s.heap.IsList l vs.toArray) (rs : RepL G vs xs) (hk : memP x xs = some k)
    (h : Q (.bool k) s) : wpAny (model prog w) A (compareOp .In vx (.ref l)) Q E s := by
  obtain ⟨e, h1, h2⟩ := memP_any (A := A.in1) g (by show A.units + 1 + 8 < cLine; (exact (linS [_, _] [.s 1 (.a (.v 0) (.n 16)) (.v 1)] 1 (.a (.a (.v 0) (.n 1)) (.n 8)) (.v 1) rfl hu))) rx rs hk
  refine in_listAt e hl (fun y hy => h1 y (by simpa using hy)) ?_
  rw [List.any_toArray, ← h2]
  exact h
inductive CmpForm : CmpOp → PV → PV → Prop
  | eq (a b : PV) : CmpForm .Eq a b
  | ne (a b : PV) : CmpForm .NotEq a b
  | nums (op : CmpOp) (x y : Int) : CmpForm op (.int x) (.int y)
  | isT (x y : String) : CmpForm .Is (.type x) (.type y)
  | isN : CmpForm .Is .none .none
  | isL (x : List PV) : CmpForm .Is (.list x) .none
  | inL (a : PV) (x : List PV) : CmpForm .In a (.list x)
theorem cmp_form {op : CmpOp} {a b : PV} {k : Bool} (e : cmpop op a b = some k) : CmpForm op a b := by
  cases op with
  | Eq => exact .eq ..
  | NotEq => exact .ne ..
  | Lt =>
    cases a with
    | int x => cases b with
      | int y => exact .nums ..
      | _ => exact noSome e
    | _ => exact noSome e
  | LtE =>
    cases a with
    | int x => cases b with
      | int y => exact .nums ..
      | _ => exact noSome e
    | _ => exact noSome e
  | Gt =>
    cases a with
    | int x => cases b with
      | int y => exact .nums ..
      | _ => exact noSome e
    | _ => exact noSome e
  | GtE =>
    cases a with
    | int x => cases b with
      | int y => exact .nums ..
      | _ => exact noSome e
    | _ => exact noSome e
  | Is =>
    cases a with
    | type x => cases b with
      | type y => exact .isT ..
      | _ => exact noSome e
    | none => cases b with
      | none => exact .isN
      | _ => exact noSome e
    | list xs => cases b with
      | none => exact .isL ..
      | _ => exact noSome e
    | _ => exact noSome e
  | In =>
    cases b with
    | list xs => exact .inL ..
    | _ => exact noSome e
  | _ => exact noSome e
theorem kinds_form {a b : PV} (h : kindsPart a b = true) : (∃ xs y, a = .list xs ∧ b = .str y) ∨ ∃ xs y, a = .bytes xs ∧ b = .str y := by
  cases a with
  | list xs => cases b with
    | str y => exact .inl ⟨_, _, rfl, rfl⟩
    | _ => exact noTrue h
  | bytes xs => cases b with
    | str y => exact .inr ⟨_, _, rfl, rfl⟩
    | _ => exact noTrue h
  | _ => exact noTrue h
theorem cmpop_ok {op : CmpOp} {a b : PV} {va vb : Value} {k : Bool} (g : GIn G s.heap) (hu : A.units + 16 < cLine) (ra : Rep G va a) (rb : Rep G vb b) (e : cmpop op a b = some k) (h : Q (.bool k) s) :
    wpAny (model prog w) A (compareOp op va vb) Q E s := by
  cases cmp_form e with
  | eq a b => exact rcAt_rep (n := 8) g (by (exact (linS [_, _] [.s 1 (.a (.v 0) (.n 16)) (.v 1)] 1 (.a (.v 0) (.n 8)) (.v 1) rfl hu))) ra rb e prog w E Q h
  | ne a b =>
    replace e : (if kindsPart a b then some true else (eqP a b).map (!·)) = some k := e
    by_cases hk : kindsPart a b = true
    · rw [if_pos hk] at e
      injection e with e; subst e
      rcases kinds_form hk with ⟨xs, y, rfl, rfl⟩ | ⟨xs, y, rfl, rfl⟩
      · cases ra.lst with | mk aa oa vs na ea ca dna da la => obtain ⟨_, rfl⟩ := rb.inv_str; exact RcNeAt.list_str _ _ (isList_of g ea ca da) (by (exact (linS [_, _] [.s 1 (.a (.v 0) (.n 16)) (.v 1)] 1 (.v 0) (.v 1) rfl hu))) prog w E Q h
      · obtain ⟨_, rfl⟩ := ra.inv_bytes; obtain ⟨_, rfl⟩ := rb.inv_str; exact rcNe_bytes_str _ _ _ _ prog w E Q h
    · rw [if_neg hk] at e
      obtain ⟨c, hc, hk⟩ := Option.map_eq_some_iff.mp e
      subst hk
      exact rcNe_rep (n := 8) g (by (exact (linS [_, _] [.s 1 (.a (.v 0) (.n 16)) (.v 1)] 1 (.a (.v 0) (.n 8)) (.v 1) rfl hu))) ra rb hc prog w E Q h
  | nums op x y =>
    obtain ⟨_, rfl⟩ := ra.inv_int; obtain ⟨_, rfl⟩ := rb.inv_int
    cases op with
    | Eq => exact rcAt_rep (n := 8) g (by (exact (linS [_, _] [.s 1 (.a (.v 0) (.n 16)) (.v 1)] 1 (.a (.v 0) (.n 8)) (.v 1) rfl hu))) (.int _ _) (.int _ _) e prog w E Q h
    | Lt => injection (show some (decide (x < y)) = some k from e) with e; subst e; exact P.lt_int h
    | LtE => injection (show some (decide (x ≤ y)) = some k from e) with e; subst e; exact P.le_int h
    | Gt => injection (show some (decide (x > y)) = some k from e) with e; subst e; exact P.gt_int h
    | GtE => injection (show some (decide (x ≥ y)) = some k from e) with e; subst e; exact P.ge_int h
    | NotEq =>
      obtain ⟨c, hc, hk⟩ := Option.map_eq_some_iff.mp (show (eqP (.int x) (.int y)).map (!·) = some k from e)
      subst hk
      exact rcNe_rep (n := 8) g (by (exact (linS [_, _] [.s 1 (.a (.v 0) (.n 16)) (.v 1)] 1 (.a (.v 0) (.n 8)) (.v 1) rfl hu))) (.int _ _) (.int _ _) hc prog w E Q h
    | _ => exact noSome e
  | isT x y =>
    injection (show some (x == y) = some k from e) with e; subst e; cases ra.inv_type; cases rb.inv_type
    refine wpAny_is_plain rfl ?_
    have q : (Value.type x == Value.type y) = (x == y) := by
      by_cases hxy : x = y
      · subst hxy; simp
      · have : Value.type x ≠ Value.type y := fun q => hxy (by injection q)
        rw [beq_false_of_ne hxy, beq_false_of_ne this]
    rw [q]; exact h
  | isN => injection (show some true = some k from e) with e; subst e; cases ra.inv_none; cases rb.inv_none; exact wpAny_is_plain rfl h
  | isL xs => injection (show some false = some k from e) with e; subst e; cases rb.inv_none; cases ra.lst with | mk aa oa vs na ea ca dna da la => exact wpAny_is_plain rfl h
  | inL a xs =>
    replace e : memP a xs = some k := e
    cases rb.lst with | mk a2 o2 us n2 eb cb dnb db lb => exact in_list_ok g hu ra (isList_of g eb cb db) lb e h
end
end Mine
set_option maxRecDepth 100000
set_option linter.unusedVariables false
namespace Mine
open PySem PyProof.Rows PySem.W PySem.SeqAt
noncomputable def cutOf (b : Array UInt8) (lo hi st : Option Int) : Array UInt8 :=
  Builtin.Bytes.sliced b (sliceBounds lo hi st b.size).1 (sliceBounds lo hi st b.size).2.1 (sliceBounds lo hi st b.size).2.2
theorem pick_list {α : Type} (xs : List α) (i j : Nat) : ((sliceRange (i : Int) (j : Int) 1).filterMap (xs[·]?)) = (xs.take j).drop i := by
  have e : sliceRange (i : Int) (j : Int) 1 = (List.range (j - i)).map fun k => i + k := by
    unfold sliceRange
    simp only [show (1 : Int) > 0 from by decide, if_true]
    have h1 : ((if (i : Int) < (j : Int) then ((j : Int) - (i : Int) + 1 - 1) / 1 else 0) : Int).toNat = j - i := by
      split <;> omega
    rw [h1]
    refine List.map_congr_left fun k hk => ?_
    omega
  rw [e, List.filterMap_map]
  apply List.ext_getElem?
  intro n
  have : ((List.range (j - i)).filterMap ((fun x => xs[x]?) ∘ fun k => i + k)) = ((List.range (j - i)).filterMap fun k => (xs.drop i)[k]?) := by
    congr 1
    funext k
    simp
  rw [this]
  have q : ∀ (m : Nat) (l : List α), ((List.range m).filterMap fun k => l[k]?) = l.take m := by
    intro m
    induction m with
    | zero => intro l; simp
    | succ m ih =>
      intro l
      rw [List.range_succ, List.filterMap_append, ih, List.take_add_one]
      cases h : l[m]? <;> simp [h]
  rw [q, List.drop_take]
theorem clip1 (k n : Nat) : max (0 : Int) (min (if (k : Int) < 0 then (k : Int) + n else k) n) = ((min k n : Nat) : Int) := by
  rw [if_neg (Int.not_lt.mpr (i0 k))]
  rcases Nat.le_total k n with h | h
  · rw [Int.min_eq_left (iLe h), Nat.min_eq_left h]; exact Int.max_eq_right (i0 _)
  · rw [Int.min_eq_right (iLe h), Nat.min_eq_right h]; exact Int.max_eq_right (i0 _)
theorem bounds_none (lo hi : Option Int) (n i j : Nat) (h1 : lo = none ∧ i = 0 ∨ lo = some (i : Int)) (h2 : hi = none ∧ j = n ∨ hi = some (j : Int)) :
    sliceBounds lo hi none n = (((min i n : Nat) : Int), ((min j n : Nat) : Int), 1) := by
  have e1 : (sliceBounds lo hi none n).1 = ((min i n : Nat) : Int) := by
    rcases h1 with ⟨rfl, rfl⟩ | rfl
    · rw [Nat.zero_min]; rfl
    · exact clip1 i n
  have e2 : (sliceBounds lo hi none n).2.1 = ((min j n : Nat) : Int) := by
    rcases h2 with ⟨rfl, rfl⟩ | rfl
    · rw [Nat.min_self]; rfl
    · exact clip1 j n
  rw [← e1, ← e2]; rfl
theorem take_drop_min {α : Type} (xs : List α) (i j : Nat) : (xs.take (min j xs.length)).drop (min i xs.length) = (xs.take j).drop i := by
  have h1 : xs.take (min j xs.length) = xs.take j := by
    rcases Nat.le_total j xs.length with h | h
    · rw [Nat.min_eq_left h]
    · rw [Nat.min_eq_right h, List.take_length, List.take_of_length_le h]
  rw [h1]
  rcases Nat.le_total i xs.length with h | h
  · rw [Nat.min_eq_left h]
  · rw [Nat.min_eq_right h, List.drop_eq_nil_of_le (by simp; (exact (linL [_, _] [.l 1 (.v 0) (.v 1)] 1 (.v 0) (.v 1) rfl (Nat.min_le_right _ _)))), List.drop_eq_nil_of_le (by simp; (exact (linL [_, _, _] [.l 1 (.v 0) (.v 1), .l 1 (.v 2) (.v 0)] 1 (.v 2) (.v 1) rfl h (Nat.min_le_right _ _))))]
theorem cutOf_cut (b : List UInt8) (lo hi : Option Int) (i j : Nat) (h1 : lo = none ∧ i = 0 ∨ lo = some (i : Int)) (h2 : hi = none ∧ j = b.length ∨ hi = some (j : Int)) : cutOf b.toArray lo hi none = (cut b i j).toArray := by
  unfold cutOf Builtin.Bytes.sliced
  have hs : b.toArray.size = b.length := by simp
  rw [hs, bounds_none lo hi b.length i j h1 h2]
  have := pick_list b (min i b.length) (min j b.length)
  simp only [List.getElem?_toArray]
  rw [this, take_drop_min]
  rfl
theorem slicePick_cut (b : List Value) (lo hi : Option Int) (i j : Nat) (h1 : lo = none ∧ i = 0 ∨ lo = some (i : Int)) (h2 : hi = none ∧ j = b.length ∨ hi = some (j : Int)) : slicePick b.toArray lo hi none = (cut b i j).toArray := by
  unfold slicePick
  have hs : b.toArray.size = b.length := by simp
  rw [hs, bounds_none lo hi b.length i j h1 h2]
  have := pick_list b (min i b.length) (min j b.length)
  simp only [List.getElem?_toArray]
  rw [this, take_drop_min]
  rfl
theorem cutOf_rev (b : List UInt8) : cutOf b.toArray none none (some (-1)) = b.reverse.toArray := by
  unfold cutOf Builtin.Bytes.sliced
  rw [krv_bounds]
  show ((sliceRange ((b.toArray.size : Int) - 1) (-1) (-1)).filterMap (b.toArray[·]?)).toArray = _
  rw [krv_sliceRange, krv_range, List.filterMap_reverse, krv_all]
section
variable {prog : Program} {w : World} {A : Around} {E : Value → Shared → Prop} {s : Shared} {G : GM} {Q : Value → Shared → Prop} {r : PV}
theorem rev_meets (b : Array UInt8) (t : Tok) (a : Addr) (k : Tok) :
    Meets (Builtin.«bytes.__getitem__» ⟨[.bytes b t, .ref a], []⟩) (fun _ R s => s.heap.IsSliceOf a .none .none (.int (-1) k) ∧ (cutOf b none none (some (-1))).size ≤ sizeLine ∧ ∀ t' tk, R (.ok (.ret (.bytes (cutOf b none none (some (-1))) t'))) { s with toks := tk }) := by
  refine .of_wp fun prog w A R s hS => ?_
  obtain ⟨⟨o, ho, hc, hd⟩, hsz, h⟩ := hS
  have hT : s.TypeIs (.ref a) "slice" := ⟨o, ho, hc⟩
  -- the bytes, then what the subscript is
  refine wpAny_bind (wpAny_of_eq (a := (Value.bytes b t, [Value.ref a])) rfl ?_)
  dsimp only
  refine wpAny_bind (wpAny_of_eq (a := b) rfl (wpAny_bind ?_))
  unfold Builtin.Bytes.subscript?
  refine wpAny_bind (wpAny_specialOf hT slice_no_index (wpAny_pure (wpAny_bind (wpAny_typeOf hT (wpAny_bind ?_)))))
  -- its three parts: -1, nothing, nothing
  unfold Builtin.Bytes.sliceParts
  refine wpAny_bind (wpAny_field (x := .int (-1) k) ho hd rfl ?_)
  kby_int
  refine bm_if_false (by decide) (wpAny_bind (wpAny_field (x := .none) ho hd rfl ?_))
  kby_none
  refine wpAny_bind (wpAny_field (x := .none) ho hd rfl ?_)
  kby_none
  refine wpAny_pure (wpAny_bind (wpAny_of_eq (sliceIndices_raw none none (some (-1)) b.size (by decide)) ?_))
  rw [krv_bounds]
  refine bm_if_false (by simp) (wpAny_bind (wpAny_mkBytes (wpAny_pure ⟨_, rfl, ?_⟩) ?_))
  · exact h _ _
  · exact hsz
theorem sub_item {sl : Expr} {o i : Value} (h : isSlice sl = false) : subscripted sl false o i = operate [o, i] (getItem o i) := by
  cases sl <;> first | rfl | exact noTrue h.symm
theorem ifSomeO {α : Type} {c : Prop} [Decidable c] {v : Option α} {r : α} (e : (if c then v else none) = some r) : c ∧ v = some r := by
  by_cases h : c
  · rw [if_pos h] at e; exact ⟨h, e⟩
  · rw [if_neg h] at e; exact noSome e
inductive ItForm : PV → PV → Prop
  | bytes (b : List UInt8) (k : Int) : ItForm (.bytes b) (.int k)
  | list (xs : List PV) (k : Int) : ItForm (.list xs) (.int k)
  | tuple (xs : List PV) (k : Int) : ItForm (.tuple xs) (.int k)
theorem item_form {o i r : PV} (e : itemP o i = some r) : ItForm o i := by
  cases o with
  | bytes b => cases i with
    | int k => exact .bytes ..
    | _ => exact noSome e
  | list b => cases i with
    | int k => exact .list ..
    | _ => exact noSome e
  | tuple b => cases i with
    | int k => exact .tuple ..
    | _ => exact noSome e
  | _ => exact noSome e
theorem itemP_ok {value sl : Expr} {o i : PV} {vo vi : Value} (g : GIn G s.heap) (ro : Rep G vo o) (ri : Rep G vi i) (hs : isSlice sl = false) (e : itemP o i = some r) (h : OpPost G s r Q) :
    wpAny (model prog w) A (subscriptTail value sl vo vi) Q E s := by
  cases item_form e with
  | bytes b k =>
    obtain ⟨hz, e⟩ := ifSomeO e
    · obtain ⟨_, rfl⟩ := ro.inv_bytes; obtain ⟨_, rfl⟩ := ri.inv_int
      obtain ⟨c, hc, hr⟩ := Option.map_eq_some_iff.mp e
      subst hr
      have hz3 := hz.2.2
      unfold lim at hz3
      refine tail_any (typeIs_bytes _ _ _) FB.slot_bytes_getitem.lookup (getItem_bytes (by (exact (linL [_] [.l 1 (.v 0) (.n 16777216)] 1 (.v 0) (.n 1099511627776) rfl hz3))) hz.1 hz.2.1 ?_) (sub_item hs)
      have : b.getD k.toNat 0 = c := by rw [List.getD_eq_getElem?_getD, hc]; rfl
      rw [this]
      exact h.val g (.int _ _) _
  | list xs k =>
    obtain ⟨hz, e⟩ := ifSomeO e
    · obtain ⟨_, rfl⟩ := ri.inv_int
      cases ro.lst with | mk aa oa vs na ea ca dna da la =>
      obtain ⟨v, hv, rv⟩ := la.get e
      have hl := isList_of g ea ca da
      have hz3 := hz.2.2
      unfold lim at hz3
      exact tail_any hl.typeIs slot_list_getitem.lookup (wpAny_getItem_list hl hz.1 (by omega) (by simpa using hv) (h.val0 g rv)) (sub_item hs)
  | tuple xs k =>
    obtain ⟨hz, e⟩ := ifSomeO e
    · obtain ⟨_, rfl⟩ := ri.inv_int
      cases ro.tpl with | mk aa oa vs na ea ca da la =>
      obtain ⟨v, hv, rv⟩ := la.get e
      have hl := isTup_of g ea ca da
      have hz3 := hz.2.2
      unfold lim at hz3
      refine tail_any hl.typeIs slot_tuple_getitem.lookup (getItem_tuple (j := k.toNat) hl (by omega) (by omega) ?_ (by simpa using hv) (h.val0 g rv)) (sub_item hs)
      have e1 := la.length
      unfold seqIndex?
      have : ¬ k < 0 := by omega
      simp only [List.size_toArray, e1]
      first
        | (rw [if_neg this]; simp; omega)
        | (simp [this]; omega)
        | (split <;> simp_all <;> omega)
inductive PartRep (G : GM) : Value → Option PV → Prop
  | none : PartRep G Value.none Option.none
  | some {v : Value} {p : PV} : Rep G v p → PartRep G v (Option.some p)
noncomputable def sliceObj (l u k : Value) : Obj := { cls := .type "slice", data := .fields #[l, u, k] }
theorem endP_part {v : Value} {x : Option PV} {d n : Nat} (h : PartRep G v x) (e : endP d x = some n) : ∃ lo, IsPart v lo ∧ (lo = none ∧ n = d ∨ lo = some (n : Int)) := by
  cases h with
  | none => unfold endP at e; injection e with e; exact ⟨_, .none, .inl ⟨rfl, e.symm⟩⟩
  | some hr =>
    unfold endP at e
    split at e
    · cases ‹Option.some _ = Option.none›
    · rename_i i h1
      injection h1 with h1
      subst h1
      split at e
      · injection e with e
        obtain ⟨_, rfl⟩ := hr.inv_int
        exact ⟨_, .int _ _, .inr (by rw [← e]; congr 1; omega)⟩
      · cases e
    · cases e
inductive SlForm (l u : Option PV) : PV → Prop
  | bytes (b : List UInt8) (i j : Nat) (h1 : endP 0 l = some i) (h2 : endP b.length u = some j) : SlForm l u (.bytes b)
  | list (xs : List PV) (i j : Nat) (h1 : endP 0 l = some i) (h2 : endP xs.length u = some j) : SlForm l u (.list xs)
theorem slice_form {o r : PV} {l u : Option PV} (e : sliceP o l u = some r) : SlForm l u o := by
  cases o with
  | bytes b =>
    replace e : (match endP 0 l, endP b.length u with
      | some i, some j => if b.length ≤ lim then some (PV.bytes (cut b i j)) else none
      | _, _ => none) = some r := e
    cases h1 : endP 0 l with
    | none => rw [h1] at e; exact noSome e
    | some i =>
      rw [h1] at e
      cases h2 : endP b.length u with
      | none => rw [h2] at e; exact noSome e
      | some j => exact .bytes _ _ _ h1 h2
  | list b =>
    replace e : (match endP 0 l, endP b.length u with
      | some i, some j => if b.length ≤ lim then some (PV.list (cut b i j)) else none
      | _, _ => none) = some r := e
    cases h1 : endP 0 l with
    | none => rw [h1] at e; exact noSome e
    | some i =>
      rw [h1] at e
      cases h2 : endP b.length u with
      | none => rw [h2] at e; exact noSome e
      | some j => exact .list _ _ _ h1 h2
  | _ => exact noSome e
theorem sliceTail_ok {value : Expr} {le ue : Option Expr} {pos : Pos} {o : PV} {vo vl vu : Value} {lx ux : Option PV} (g : GIn G s.heap) (ro : Rep G vo o) (hl : PartRep G vl lx) (hu : PartRep G vu ux) (e : sliceP o lx ux = some r)
    (h : OpPost G s r Q) : wpAny (model prog w) A (subscriptTail value (.Slice le ue none pos) vo (.ref s.heap.objs.size)) Q E { s with heap := s.heap.push (sliceObj vl vu .none) } := by
  have hS : ({ s with heap := s.heap.push (sliceObj vl vu .none) } : Shared).heap.IsSliceOf s.heap.objs.size vl vu .none := Heap.IsSliceOf.new ..
  cases slice_form e with
  | bytes b i j h1 h2 =>
    replace e : (match endP 0 lx, endP b.length ux with
      | some i, some j => if b.length ≤ lim then some (PV.bytes (cut b i j)) else none
      | _, _ => none) = some r := e
    rw [h1, h2] at e
    obtain ⟨hz, e⟩ := ifSome e
    · · subst e
        obtain ⟨_, rfl⟩ := ro.inv_bytes
        obtain ⟨lo, p1, q1⟩ := endP_part hl h1
        obtain ⟨hi, p2, q2⟩ := endP_part hu h2
        have hcut := cutOf_cut b lo hi i j q1 q2
        refine tail_any (typeIs_bytes _ _ _) FB.slot_bytes_getitem.lookup (getItem_meets (typeIs_bytes _ _ _) (by decide) FB.slot_bytes_getitem FB.entry_bytes_getitem (FB.args_bytes_getitem_2 _ _)
          (KBc.meets_slice2 _ _ _ p1 p2) ⟨hS, ?_, ?_⟩) (ops := [.ref s.heap.objs.size, _]) rfl
        · show (cutOf b.toArray lo hi none).size ≤ sizeLine
          rw [hcut, ← lim_eq]
          unfold cut
          simp
          (exact (linL [_, _, _, _] [.l 1 (.v 0) (.v 1), .l 1 (.v 2) (.v 0)] 1 (.v 2) (.a (.v 1) (.v 3)) rfl hz (Nat.min_le_right _ _)))
        · intro t' tk
          show Q (.bytes (cutOf b.toArray lo hi none) t') _
          rw [hcut]
          exact h _ _ _ tk (Ext.pushed g _) (.bytes _ _)
  | list xs i j h1 h2 =>
    replace e : (match endP 0 lx, endP xs.length ux with
      | some i, some j => if xs.length ≤ lim then some (PV.list (cut xs i j)) else none
      | _, _ => none) = some r := e
    rw [h1, h2] at e
    obtain ⟨hz, e⟩ := ifSome e
    · · subst e
        cases ro.lst with | mk aa oa vs na ea ca dna da la =>
        rw [← la.length] at h2
        obtain ⟨lo, p1, q1⟩ := endP_part hl h1
        obtain ⟨hi, p2, q2⟩ := endP_part hu h2
        have hL := isList_of g ea ca da
        refine tail_any (Heap.IsList.typeIs (s := { s with heap := s.heap.push (sliceObj vl vu .none) }) (hL.push _)) list_getitem_lookup (wpAny_getItem_list_slice (hL.push _) hS p1 p2 .none (by simp) ?_ ?_) (ops := [.ref s.heap.objs.size, _]) rfl
        · rw [slicePick_cut vs lo hi i j q1 q2]
          have e1 := (Ext.pushed g (sliceObj vl vu .none)).trans (Ext.alloc (g.keeps fun _ _ q => Heap.get?_push_of_some _ q) { cls := .type "list", data := .seq (cut vs i j).toArray })
          exact h _ _ _ s.toks e1 (.list (upd_self ..) rfl rfl rfl (((la.take j).drop i).mono e1.gs))
        · have := la.length
          simp only [List.size_toArray]
          rw [← lim_eq]
          (exact (linL [_, _, _] [.l 1 (.v 0) (.v 1), .q 1 (.v 2) (.v 0)] 1 (.v 2) (.v 1) rfl hz this))
theorem revTail_ok {value : Expr} {ke : Expr} {pos : Pos} {o : PV} {vo : Value} {u : Tok} (g : GIn G s.heap) (ro : Rep G vo o) (e : revP o = some r)
    (h : OpPost G s r Q) : wpAny (model prog w) A (subscriptTail value (.Slice none none (some ke) pos) vo (.ref s.heap.objs.size)) Q E { s with heap := s.heap.push (sliceObj .none .none (.int (-1) u)) } := by
  have hS : ({ s with heap := s.heap.push (sliceObj .none .none (.int (-1) u)) } : Shared).heap.IsSliceOf s.heap.objs.size .none .none (.int (-1) u) := Heap.IsSliceOf.new ..
  cases o with
  | bytes b =>
    obtain ⟨hz, e⟩ := ifSome e
    · subst e
      obtain ⟨_, rfl⟩ := ro.inv_bytes
      have hcut := cutOf_rev b
      refine tail_any (typeIs_bytes _ _ _) FB.slot_bytes_getitem.lookup (getItem_meets (typeIs_bytes _ _ _) (by decide) FB.slot_bytes_getitem FB.entry_bytes_getitem (FB.args_bytes_getitem_2 _ _)
        (rev_meets _ _ _ _) ⟨hS, ?_, ?_⟩) (ops := [_, .ref s.heap.objs.size]) rfl
      · rw [hcut, ← lim_eq]
        simpa using hz
      · intro t' tk
        rw [hcut]
        exact h _ _ _ tk (Ext.pushed g _) (.bytes _ _)
  | list xs =>
    obtain ⟨hz, e⟩ := ifSome e
    · subst e
      cases ro.lst with | mk aa oa vs na ea ca dna da la =>
      have hL := isList_of g ea ca da
      refine tail_any (Heap.IsList.typeIs (s := { s with heap := s.heap.push (sliceObj .none .none (.int (-1) u)) }) (hL.push _)) list_getitem_lookup (wpAny_getItem_list_slice (hL.push _) hS .none .none (.int _ _) (by decide) ?_ ?_) (ops := [_, .ref s.heap.objs.size]) rfl
      · rw [krv_pick]
        have e1 := (Ext.pushed g (sliceObj .none .none (.int (-1) u))).trans (Ext.alloc (g.keeps fun _ _ q => Heap.get?_push_of_some _ q) { cls := .type "list", data := .seq vs.reverse.toArray })
        exact h _ _ _ s.toks e1 (.list (upd_self ..) rfl rfl rfl (la.reverse.mono e1.gs))
      · have := la.length
        simp only [List.size_toArray]
        rw [← lim_eq]
        (exact (linL [_, _, _] [.l 1 (.v 0) (.v 1), .q 1 (.v 2) (.v 0)] 1 (.v 2) (.v 1) rfl hz this))
  | _ => exact noSome e
end
end Mine
set_option maxRecDepth 100000
set_option linter.unusedVariables false
namespace Mine
open PySem PyProof.Rows PySem.W PySem.SeqAt
theorem bm_bytes : typeLookup (.type "bytes") "__bytes__" = pure (some (.builtin "bytes.__bytes__")) := by rw [typeLookup_type, builtinLookup_eq_fast]; kernel_rfl
section
variable {prog : Program} {w : World} {A : Around} {E : Value → Shared → Prop} {s : Shared} {G : GM} {Q : Value → Shared → Prop} {r : PV}
theorem new_of_bytes {b : Array UInt8} {t : Tok} (hQ : Q (.bytes b t) s) : codeAny (model prog w) A (.call (.builtin "bytes.__new__") ⟨[.type "bytes", .bytes b t], []⟩) (wants Q E) s := by
  refine codeAny_of_tree ?_
  show wpAny _ A.in1 (do checkBuiltinCall "bytes.__new__" ⟨[.type "bytes", .bytes b t], []⟩; again (.builtin "bytes.__new__" ⟨[.type "bytes", .bytes b t], []⟩)) _ _ s
  refine wpAny_bind (wpAny_of_eq (F.bm_newCall _) (wpAny_pure ⟨plainId_quiet F.bm_plain _, codeAny_builtin F.bm_entry ?_⟩))
  rw [Around.under_plainId F.bm_plain _]
  have hT : s.TypeIs (.bytes b t) "bytes" := typeIs_bytes _ _ _
  unfold Builtin.«bytes.__new__»
  refine wpAny_bind (wpAny_of_eq (a := true) rfl ?_)
  refine bm_if_false rfl ?_
  refine wpAny_bind (wpAny_of_eq F.bm_sub ?_)
  refine bm_if_false rfl ?_
  refine wpAny_bind (wpAny_of_eq (F.bm_bind _) ?_)
  refine wpAny_bind (wpAny_of_eq (a := ()) rfl ?_)
  refine wpAny_bind (wpAny_of_eq (a := ()) rfl ?_)
  refine bm_if_false rfl ?_
  refine wpAny_bind (wpAny_specialOf hT bm_bytes ?_)
  refine wpAny_bind (wpAny_rule ?_)
  refine wpAny_bind (wpAny_typeOf hT ?_)
  refine bm_if_true (by decide) ?_
  first
    | exact wpAny_pure hQ
    | exact wpAny_bind (wpAny_pure hQ)
theorem call_bytes_bytes {b : Array UInt8} {t : Tok} (hQ : Q (.bytes b t) s) : wpAny (model prog w) A (call (.type "bytes") [.bytes b t]) Q E s := by
  refine callType_codes (Q₁ := fun obj s₁ => s₁.TypeIs obj "bytes" ∧ Q obj s₁) F.bm_called (F.bm_typeCall _) F.entry_object_init (new_of_bytes ⟨typeIs_bytes _ _ _, hQ⟩) fun obj s₁ h₁ => ?_
  exact ⟨h₁.1, F.args_object_init_2 obj _, object_init_meets F.bm_called.init.lookup F.bm_called.made (by decide) prog w A.in1 _ s₁ ⟨h₁.1, rfl, h₁.2⟩⟩
theorem allBytes_ints : ∀ {vs : List Value} {xs : List PV} {bs : List UInt8}, RepL G vs xs → allBytes xs = some bs → ∃ ns, IntsAre vs ns ∧ (∀ n ∈ ns, 0 ≤ n ∧ n < 256) ∧ byteArr ns = bs.toArray ∧ ns.length = xs.length
  | _, _, _, .nil, h => by simp [allBytes] at h; subst h; exact ⟨[], .nil, by simp, rfl, rfl⟩
  | _, _, _, .cons hx hr, h => by
    unfold allBytes at h
    split at h
    · rename_i heq; cases heq
    · rename_i i r heq
      injection heq with h1 h2
      subst h1 h2
      split at h
      · rename_i hz
        obtain ⟨bs', hb, rfl⟩ := Option.map_eq_some_iff.mp h
        obtain ⟨ns, k1, k2, k3, k4⟩ := allBytes_ints hr hb
        cases hx
        refine ⟨i :: ns, .cons _ _ k1, ?_, ?_, by simp [k4]⟩
        · intro n hn
          rcases List.mem_cons.mp hn with rfl | hn
          · exact hz
          · exact k2 n hn
        · unfold byteArr at k3 ⊢
          have := List.toArray_inj k3
          rw [List.map_cons, this]
      · cases h
    · cases h
theorem lenP_ok {a : PV} {va : Value} (g : GIn G s.heap) (ra : Rep G va a) (e : lenP a = some r) (h : OpPost G s r Q) : wpAny (model prog w) A (call (.builtin "len") [va]) Q E s := by
  unfold lenP at e
  split at e
  · split at e
    · rename_i hz
      injection e with e; subst e; obtain ⟨_, rfl⟩ := ra.inv_bytes
      unfold lim at hz
      refine len_bytes (by simp; (exact (linL [_] [.l 1 (.v 0) (.n 16777216)] 1 (.v 0) (.n 1099511627776) rfl hz))) ?_
      simp only [List.size_toArray]
      exact h.val g (.int _ _) _
    · cases e
  · split at e
    · rename_i hz
      injection e with e; subst e
      cases ra.lst with | mk aa oa vs na ea ca dna da la =>
      have hl := la.length
      unfold lim at hz
      refine len_list (isList_of g ea ca da) (by simp; (exact (iLt (k := 9223372036854775808) (linS [_, _] [.l 1 (.v 0) (.n 16777216), .q 1 (.v 1) (.v 0)] 1 (.v 1) (.n 9223372036854775808) rfl hz hl)))) ?_
      simp only [List.size_toArray, hl]
      exact h.val g (.int _ _) _
    · cases e
  · cases e
theorem bytesP_ok {a : PV} {va : Value} (hh : A.handled = none) (g : GIn G s.heap) (ra : Rep G va a) (e : bytesP a = some r) (h : OpPost G s r Q) : wpAny (model prog w) A (call (.type "bytes") [va]) Q E s := by
  unfold bytesP at e
  split at e
  · injection e with e; subst e; obtain ⟨_, rfl⟩ := ra.inv_bytes
    exact call_bytes_bytes (h.val0 g (.bytes _ _))
  · split at e
    · rename_i hz
      obtain ⟨bs, hb, rfl⟩ := Option.map_eq_some_iff.mp e
      cases ra.lst with | mk aa oa vs na ea ca dna da la =>
      obtain ⟨ns, k1, k2, k3, k4⟩ := allBytes_ints la hb
      have hl := la.length
      refine call_bytes_ints (isList_of g ea ca da) k1 k2 (by rw [← lim_eq, hl]; exact hz) hh fun h' t k hk => ?_
      rw [k3]
      exact h _ _ _ k (Ext.same g hk) (.bytes _ _)
    · cases e
  · cases e
end
end Mine
set_option maxRecDepth 100000
set_option linter.unusedVariables false
namespace Mine
open PySem PyProof.Rows PySem.W PySem.SeqAt
theorem slot_bytes_join : PySem.Slot "bytes" "join" "bytes.join" :=
  .of (owner := "bytes") (n := "join") (by rw [typeLookup_type, builtinLookup_eq_fast]; kernel_rfl) (by decide +kernel) (by decide +kernel) (by decide +kernel)
    (by first | exact .inl (by decide +kernel) | exact .inr (by decide +kernel)) (by rw [isSubtype_type]; kernel_rfl)
theorem type_bytes_join : typeOf (.builtin "bytes.join") = pure (.type "method_descriptor") := by show builtinType _ = _; rw [builtinType_eq_fast]; kernel_rfl
theorem entry_bytes_join : entryFor table "bytes.join" = some Builtin.«bytes.join» := by first | exact entryFor_of_tree (by kernel_rfl) | exact entryFor_of_fast (by kernel_rfl)
theorem args_bytes_join_2 (a b : Value) : argsOk "bytes.join" ⟨[a, b], []⟩ := by
  unfold argsOk; rw [signature?_of (id := "bytes.join") (n := ['n', 'i', 'o', 'j']) (o := ['s', 'e', 't', 'y', 'b']) (by kernel_rfl) FB.owner_bytes]; kernel_rfl
theorem takeQuiet_eq {b : Array UInt8} {t : Tok} {id : String} : Builtin.Bytes.takeBufferQuiet? id (.bytes b t) 0 = pure (some (b, none)) := by
  unfold Builtin.Bytes.takeBufferQuiet? Builtin.Bytes.takeBuffer?
  rw [KBy.special_eq KBy.look_buffer, KBy.own_buffer]
  have h : Builtin.Bytes.buffer? id (.bytes b t) (full := (0 : Int) == Builtin.Bytes.fullReadOnly) = pure (some b) := KBy.buffer_eq
  simp only [pure_bind]
  show Sem.attempt (do return (← Builtin.Bytes.buffer? id (.bytes b t) (full := (0 : Int) == Builtin.Bytes.fullReadOnly)).map (·, none)) >>= _ = _
  rw [h]
  rfl
section
variable {prog : Program} {w : World} {A : Around} {E : Value → Shared → Prop} {s : Shared} {G : GM} {Q : Value → Shared → Prop} {r : PV}
theorem joinLetGo_ok {M : Model} {Q : Unit → Shared → Prop} : ∀ (taken : List (Value × Option Value)) (keep : List Value), (∀ p ∈ taken, p.2 = none) → Q () s → wpAny M A (Builtin.Bytes.joinLetGo taken keep) Q E s
  | [], _, _, h => wpAny_pure h
  | (x, w) :: rest, keep, hn, h => by
    have hw : w = none := hn (x, w) (.head _)
    subst hw
    unfold Builtin.Bytes.joinLetGo
    refine wpAny_bind (wpAny_letGo (joinLetGo_ok rest keep (fun p hp => hn p (.tail _ hp)) h))
theorem joinBytes_parts : ∀ {vs : List Value} {xs : List PV} {bs : List UInt8}, RepL G vs xs → joinBytes xs = some bs →
    ∃ ps : List (List UInt8), ps.length = vs.length ∧ ps.flatten = bs ∧ ∀ (i : Nat) (v : Value), vs[i]? = some v → ∃ b t, ps[i]? = some b ∧ v = .bytes b.toArray t
  | _, _, _, .nil, h => by simp [joinBytes] at h; subst h; exact ⟨[], rfl, rfl, by simp⟩
  | _, _, _, .cons hx hr, h => by
    unfold joinBytes at h
    split at h
    · rename_i heq; cases heq
    · rename_i b r heq
      injection heq with h1 h2
      subst h1 h2
      obtain ⟨bs', hb, rfl⟩ := Option.map_eq_some_iff.mp h
      obtain ⟨ps, k1, k2, k3⟩ := joinBytes_parts hr hb
      cases hx
      refine ⟨b :: ps, by simp [k1], by simp [k2], fun i v hv => ?_⟩
      cases i with
      | zero => simp at hv; subst hv; exact ⟨b, _, rfl, rfl⟩
      | succ i => simp at hv; simpa using k3 i v hv
    · cases h
theorem joined_nil (ps : List (List UInt8)) : Builtin.Bytes.joined #[] (ps.map List.toArray) = ps.flatten.toArray := by
  unfold Builtin.Bytes.joined
  have key : ∀ (l : List (List UInt8)) (k : Nat) (acc : List UInt8), ((l.map List.toArray).zipIdx k).foldl (fun out (p : Array UInt8 × Nat) => (if p.2 > 0 then out ++ #[] else out) ++ p.1) acc.toArray = (acc ++ l.flatten).toArray := by
    intro l
    induction l with
    | nil => intro k acc; simp
    | cons b l ih =>
      intro k acc
      rw [List.map_cons, List.zipIdx_cons, List.foldl_cons]
      have : ((if k > 0 then acc.toArray ++ #[] else acc.toArray) ++ b.toArray) = (acc ++ b).toArray := by split <;> simp
      rw [this, ih, List.flatten_cons, List.append_assoc]
  have := key ps 0 []
  simpa using this
abbrev JS := Array (Array UInt8) × List (Value × Option Value)
theorem join_main {vs : List Value} {ps : List (List UInt8)} (k1 : ps.length = vs.length) (f : Nat → JS → Sem (ForInStep JS)) (K : JS → Sem Fin) {Qf : Fin → Shared → Prop}
    (hf : ∀ i b, i < vs.length → (∀ p ∈ b.2, p.2 = none ∧ p.1.onHeap = false) → ∀ (Q' : ForInStep JS → Shared → Prop), (∀ bi ti, ps[i]? = some bi → Q' (.yield (b.1.push bi.toArray, b.2 ++ [(.bytes bi.toArray ti, none)])) s) → wpAny (model prog w) A (f i b) Q' E s)
    (hK : ∀ tk, (∀ p ∈ tk, p.2 = none) → wpAny (model prog w) A (K ((ps.map List.toArray).toArray, tk)) Qf E s) :
    wpAny (model prog w) A (forIn [:vs.toArray.size] (#[], []) f >>= K) Qf E s := by
  refine wpAny_bind ?_
  rw [Std.Legacy.Range.forIn_eq_forIn_range']
  refine wpAny_forIn_list _ (fun rest b s' => s' = s ∧ ∃ i, i ≤ vs.length ∧ rest = List.range' i (vs.length - i) ∧ b.1 = ((ps.take i).map List.toArray).toArray ∧ ∀ p ∈ b.2, p.2 = none ∧ p.1.onHeap = false) _ ?_ ?_ _ _
    ⟨rfl, 0, Nat.zero_le _, by simp [Std.Legacy.Range.size], by simp, by simp⟩
  · rintro x rest b s' ⟨rfl, i, hi, hr, hb, ht⟩
    have hlt : i < vs.length := by
      rcases Nat.lt_or_ge i vs.length with q | q
      · exact q
      · rw [Nat.sub_eq_zero_of_le q] at hr; simp at hr
    obtain ⟨m, hm⟩ : ∃ m, vs.length - i = m + 1 := ⟨vs.length - i - 1, by (exact (linE [_, _] [.r 1 (.a (.v 0) (.n 1)) (.v 1)] 1 (.v 1) (.a (.v 0) (.n 1)) rfl rfl (Nat.sub_add_cancel (linL [_, _, _] [.s 1 (.v 0) (.v 1), .r 1 (.a (.v 2) (.v 0)) (.v 1)] 1 (.n 1) (.v 2) rfl hlt (Nat.sub_add_cancel (linL [_, _] [.s 1 (.v 0) (.v 1)] 1 (.v 0) (.v 1) rfl hlt))))))⟩
    rw [hm, List.range'_succ] at hr
    injection hr with hx hr
    subst hx
    refine hf x b hlt ht _ fun bi ti hbi => ⟨rfl, x + 1, hlt, by rw [hr]; congr 1; (exact (linE [_, _, _, _, _] [.r 1 (.v 0) (.a (.v 1) (.n 1)), .q 1 (.a (.v 0) (.v 2)) (.v 3), .r 1 (.a (.v 4) (.a (.v 2) (.n 1))) (.v 3)] 1 (.v 1) (.v 4) rfl rfl hm (Nat.sub_add_cancel (linL [_, _] [.s 1 (.v 0) (.v 1)] 1 (.v 0) (.v 1) rfl hlt)) (Nat.sub_add_cancel (linL [_, _] [.s 1 (.v 0) (.v 1)] 1 (.a (.v 0) (.n 1)) (.v 1) rfl hlt)))), ?_, ?_⟩
    · rw [hb, List.take_add_one, hbi]; simp
    · intro p hp
      rcases List.mem_append.mp hp with q | q
      · exact ht p q
      · rw [List.mem_singleton.mp q]; exact ⟨rfl, rfl⟩
  · rintro ⟨b1, b2⟩ s' ⟨rfl, i, hi, hr, hb, ht⟩
    have hin : i = vs.length := by
      have := congrArg List.length hr
      simp at this
      (exact (Nat.le_antisymm (linL [_, _] [.l 1 (.v 0) (.v 1)] 1 (.v 0) (.v 1) rfl hi) (linL [_, _, _] [.r 1 (.n 0) (.v 0), .r 1 (.a (.v 0) (.v 1)) (.v 2)] 1 (.v 2) (.v 1) rfl this (Nat.sub_add_cancel (linL [_, _] [.l 1 (.v 0) (.v 1)] 1 (.v 0) (.v 1) rfl hi)))))
    subst hin
    have hfull : ps.take vs.length = ps := List.take_of_length_le (by (exact (linL [_, _] [.q 1 (.v 0) (.v 1)] 1 (.v 0) (.v 1) rfl k1)))
    rw [hfull] at hb
    simp only at hb ht
    subst hb
    exact hK b2 fun p hp => (ht p hp).1
theorem join_fin {ps : List (List UInt8)} {bs : List UInt8} {t : Tok} (k2 : ps.flatten = bs) (hz : bs.length ≤ lim) (msg : String) (tk : List (Value × Option Value)) (htk : ∀ p ∈ tk, p.2 = none) (Q' : Fin → Shared → Prop) (hQ' : ∀ t' k, Q' (.done (.ret (.bytes bs.toArray t'))) { s with toks := k }) :
    wpAny (model prog w) A (do
      let sep ← Builtin.Bytes.payload (.bytes #[] t)
      if Builtin.Bytes.tooLong (((ps.map List.toArray).toArray).foldl (· + ·.size) (sep.size * (((ps.map List.toArray).toArray).size - 1))) then unsupported msg
      let result ← Builtin.Bytes.Kind.bytes.new (Builtin.Bytes.joined sep ((ps.map List.toArray).toArray).toList)
      holding (result :: tk.flatMap fun (y, u) => y :: u.toList) point
      Builtin.Bytes.joinLetGo tk [result]
      ret result) Q' E s := by
  refine wpAny_bind (wpAny_of_eq (a := #[]) rfl ?_)
  have hsz : ((ps.map List.toArray).toArray).foldl (· + ·.size) ((#[] : Array UInt8).size * (((ps.map List.toArray).toArray).size - 1)) = bs.length := by
    have key : ∀ (l : List (List UInt8)) (a : Nat), (l.map List.toArray).foldl (fun x (y : Array UInt8) => x + y.size) a = a + l.flatten.length := by
      intro l
      induction l with
      | nil => intro a; simp
      | cons b l ih => intro a; rw [List.map_cons, List.foldl_cons, ih]; simp; (exact (linE [_, _, _] [] 1 (.a (.a (.v 0) (.v 1)) (.v 2)) (.a (.v 0) (.a (.v 1) (.v 2))) rfl rfl))
    rw [List.foldl_toArray', key]
    · simp [k2]
    · rfl
  rw [hsz]
  refine bm_if_false (KBy.tooLong_not hz) ?_
  have hj : Builtin.Bytes.joined #[] ((ps.map List.toArray).toArray).toList = bs.toArray := by rw [← k2]; exact joined_nil ps
  rw [hj]
  refine wpAny_bind (wpAny_mkBytes ?_ (by rw [← lim_eq]; simpa using hz))
  refine wpAny_bind (wpAny_holding (wpAny_point ?_))
  exact wpAny_bind (joinLetGo_ok tk _ htk (wpAny_pure (hQ' _ _)))
theorem join_walk {l : Addr} {vs : List Value} {xs : List PV} {bs : List UInt8} {t : Tok} (g : GIn G s.heap) (hl : s.heap.IsList l vs.toArray) (rs : RepL G vs xs) (e : joinBytes xs = some bs) (hz : bs.length ≤ lim)
    (h : ∀ t' k, Q (.bytes bs.toArray t') { s with toks := k }) : wpAny (model prog w) A (Builtin.«bytes.join» ⟨[.bytes #[] t, .ref l], []⟩) (fun fin s' => ∃ v, fin = .done (.ret v) ∧ Q v s') E s := by
  obtain ⟨o, ho, hc, n, hd⟩ := id hl
  have hT : s.TypeIs (.ref l) "list" := hl.typeIs
  obtain ⟨ps, k1, k2, k3⟩ := joinBytes_parts rs e
  show wpAny _ _ (Builtin.Bytes.joinM .bytes _) _ _ _
  unfold Builtin.Bytes.joinM
  dsimp only
  refine wpAny_bind (wpAny_of_eq (a := (Value.bytes #[] t, Value.ref l)) rfl ?_)
  refine bm_if_true (by decide) ?_
  unfold Builtin.Bytes.joinItems
  refine wpAny_bind (wpAny_bind (wpAny_typeOf hT ?_))
  refine bm_if_true (by decide) ?_
  refine wpAny_pure ?_
  refine wpAny_bind (wpAny_seqItems ho hd ?_)
  refine bm_if_true (by decide) ?_
  have body : ∀ (i : Nat) (b : Array (Array UInt8) × List (Value × Option Value)), i < vs.length → (∀ p ∈ b.2, p.2 = none ∧ p.1.onHeap = false) → ∃ bi ti, ps[i]? = some bi ∧ vs.toArray.getD i Value.none = .bytes bi.toArray ti := by
    intro i b hi _
    obtain ⟨bi, ti, h1, h2⟩ := k3 i vs[i] (List.getElem?_eq_getElem hi)
    exact ⟨bi, ti, h1, by rw [← h2]; simp [Array.getD, hi]⟩
  by_cases h1 : ∃ x, vs = [x]
  · obtain ⟨x, rfl⟩ := h1
    obtain ⟨bx, tx, q1, rfl⟩ := k3 0 x rfl
    have hps : ps = [bx] := by
      match ps, k1, q1 with
      | [y], _, q1 => simp at q1; rw [q1]
    subst hps
    simp at k2
    subst k2
    refine wpAny_bind (wpAny_typeOf (typeIs_bytes s _ tx) ?_)
    refine bm_if_true (by decide) ?_
    exact wpAny_bind (wpAny_rule (wpAny_pure ⟨_, rfl, h tx s.toks⟩))
  · cases vs with
    | nil =>
      refine join_main k1 _ _ ?_ (fun tk htk => join_fin k2 hz _ tk htk _ fun t' k => ⟨_, rfl, h t' k⟩)
      intro i b hi ht Q' hQ'
      obtain ⟨bi, ti, w1, w2⟩ := body i b hi ht
      refine wpAny_bind (wpAny_seqItems ho hd ?_)
      dsimp only
      have hany : (b.snd.any fun x => x.fst.onHeap) = false := by
        rw [List.any_eq_false]
        intro p hp
        rw [(ht p hp).2]; decide
      rw [hany]
      refine bm_if_false (by decide) ?_
      rw [w2]
      refine wpAny_bind (wpAny_holding (wpAny_of_eq takeQuiet_eq ?_))
      dsimp only
      refine wpAny_bind (wpAny_seqItems ho hd ?_)
      dsimp only
      refine bm_if_false (by simp) ?_
      exact wpAny_pure (hQ' bi ti w1)
    | cons x r => cases r with
      | nil => exact absurd ⟨x, rfl⟩ h1
      | cons y r =>
      refine join_main k1 _ _ ?_ (fun tk htk => join_fin k2 hz _ tk htk _ fun t' k => ⟨_, rfl, h t' k⟩)
      intro i b hi ht Q' hQ'
      obtain ⟨bi, ti, w1, w2⟩ := body i b hi ht
      refine wpAny_bind (wpAny_seqItems ho hd ?_)
      dsimp only
      have hany : (b.snd.any fun x => x.fst.onHeap) = false := by
        rw [List.any_eq_false]
        intro p hp
        rw [(ht p hp).2]; decide
      rw [hany]
      refine bm_if_false (by decide) ?_
      rw [w2]
      refine wpAny_bind (wpAny_holding (wpAny_of_eq takeQuiet_eq ?_))
      dsimp only
      refine wpAny_bind (wpAny_seqItems ho hd ?_)
      dsimp only
      refine bm_if_false (by simp) ?_
      exact wpAny_pure (hQ' bi ti w1)
theorem joinP_ok {a : PV} {va : Value} {xs : List PV} {bs : List UInt8} {t : Tok} (g : GIn G s.heap) (ra : Rep G va (.list xs)) (e : joinBytes xs = some bs) (hz : bs.length ≤ lim) (h : OpPost G s (.bytes bs) Q) :
    wpAny (model prog w) A (call (.builtin "bytes.join") [.bytes #[] t, va]) Q E s := by
  cases ra.lst with | mk aa oa vs na ea ca dna da la =>
  refine wpAny_call_entry slot_bytes_join (typeIs_bytes s _ t) entry_bytes_join ?_ (args_bytes_join_2 _ _)
  exact join_walk g (isList_of g ea ca da) la e hz fun t' k => h.val g (.bytes _ _) _
theorem countP_any {x : PV} {vx : Value} (g : GIn G s.heap) (hu : A.units + 8 < cLine) (rx : Rep G vx x) : ∀ {vs : List Value} {xs : List PV} {k : Nat}, RepL G vs xs → countP x xs = some k →
    ∃ e : Value → Bool, (∀ y ∈ vs, EqAt A s y vx (e y)) ∧ k = vs.countP e := by
  classical
  intro vs xs k h hk
  refine ⟨fun v => if q : ∃ y, Rep G v y then (eqP q.choose x).getD false else false, ?_, ?_⟩
  · intro v hv
    induction vs generalizing xs k with
    | nil => cases hv
    | cons v' vs' ih =>
      cases h with | @cons _ _ y ys ry rs =>
      unfold countP at hk
      split at hk
      · rename_i a b h1 h2
        cases hv with
        | head =>
          have q : ∃ y, Rep G v y := ⟨y, ry⟩
          have hy : q.choose = y := Rep.uniq q.choose_spec ry
          simp only [dif_pos q, hy, h1, Option.getD_some]
          exact eqAt_rep 8 g hu ry rx h1
        | tail _ hv => exact ih rs h2 hv
      · cases hk
  · induction vs generalizing xs k with
    | nil => cases h; simp [countP] at hk; simp [hk]
    | cons v' vs' ih =>
      cases h with | @cons _ _ y ys ry rs =>
      unfold countP at hk
      split at hk
      · rename_i a b h1 h2
        injection hk with hk
        have q : ∃ y, Rep G v' y := ⟨y, ry⟩
        have hy : q.choose = y := Rep.uniq q.choose_spec ry
        rw [List.countP_cons, ← ih rs h2]
        simp only [dif_pos q, hy, h1, Option.getD_some, ← hk]
        cases a <;> simp
      · cases hk
theorem countP_ok {x : PV} {vx va : Value} {xs : List PV} {k : Nat} (g : GIn G s.heap) (hu : A.units + 16 < cLine) (ra : Rep G va (.list xs)) (rx : Rep G vx x) (e : countP x xs = some k) (h : OpPost G s (.int k) Q) :
    wpAny (model prog w) A (call (.builtin "list.count") [va, vx]) Q E s := by
  cases ra.lst with | mk aa oa vs na ea ca dna da la =>
  have hl := isList_of g ea ca da
  obtain ⟨⟨cls, dd, data, sl⟩, ho, hc, n, hd⟩ := id hl
  simp only at hc hd
  subst hc hd
  obtain ⟨f, h1, h2⟩ := countP_any (A := A.in1.in1) g (by show A.units + 1 + 1 + 8 < cLine; (exact (linS [_, _] [.s 1 (.a (.v 0) (.n 16)) (.v 1)] 1 (.a (.a (.a (.v 0) (.n 1)) (.n 1)) (.n 8)) (.v 1) rfl hu))) rx la e
  refine call_meets F.slot_list_count hl.typeIs F.entry_list_count (F.args_list_count_2 _ _) (list_countAt _ _ _ _ _ _ f) ⟨ho, fun y hy => ?_, ?_⟩
  · have := h1 y (by simpa using hy)
    first | exact this | exact EqAt.of_in1 this
  · rw [h2] at h
    exact h.val g (.int _ _) _
theorem typeP_ok {a : PV} {va : Value} {n : String} (g : GIn G s.heap) (ra : Rep G va a) (e : typeP a = some n) (h : OpPost G s (.type n) Q) : wpAny (model prog w) A (call (.type "type") [va]) Q E s := by
  cases a with
  | bool b => cases (Option.some.inj (show some "bool" = some n from e)); cases ra.inv_bool; exact call_type_of (Tx := "bool") rfl (by decide) (h.val0 g (.type _))
  | int i => cases (Option.some.inj (show some "int" = some n from e)); obtain ⟨_, rfl⟩ := ra.inv_int; exact call_type_of (Tx := "int") rfl (by decide) (h.val0 g (.type _))
  | str i => cases (Option.some.inj (show some "str" = some n from e)); obtain ⟨_, rfl⟩ := ra.inv_str; exact call_type_of (Tx := "str") rfl (by decide) (h.val0 g (.type _))
  | bytes i => cases (Option.some.inj (show some "bytes" = some n from e)); obtain ⟨_, rfl⟩ := ra.inv_bytes; exact call_type_of (Tx := "bytes") rfl (by decide) (h.val0 g (.type _))
  | tuple xs =>
    cases (Option.some.inj (show some "tuple" = some n from e))
    cases ra.tpl with | mk aa oa vs na ea ca da la => exact call_type_of (Tx := "tuple") ⟨_, g _ _ ea, ca⟩ (by decide) (h.val0 g (.type _))
  | list xs =>
    cases (Option.some.inj (show some "list" = some n from e))
    cases ra.lst with | mk aa oa vs na ea ca dna da la => exact call_type_of (Tx := "list") ⟨_, g _ _ ea, ca⟩ (by decide) (h.val0 g (.type _))
  | _ => exact noSome e
end
end Mine
set_option maxRecDepth 100000
set_option linter.unusedVariables false
namespace Mine
open PySem PyProof.Rows PySem.W
theorem Loc.get_set (σ : Loc) (x : Str) (v : Slot) (y : Str) : (σ.set x v).get y = if y = x then (σ.get x).map (fun _ => v) else σ.get y := by
  induction σ with
  | nil => simp [Loc.set, Loc.get]
  | cons p r ih =>
    obtain ⟨z, s⟩ := p
    unfold Loc.get at ih ⊢
    unfold Loc.set
    by_cases hx : x = z
    · subst hx
      simp only [beq_self_eq_true, if_true, List.lookup_cons]
      by_cases hy : y = x
      · subst hy; simp
      · simp [beq_eq_false_iff_ne.mpr hy, hy]
    · simp only [beq_eq_false_iff_ne.mpr hx, Bool.false_eq_true, if_false, List.lookup_cons]
      by_cases hy : y = z
      · subst hy
        simp [Ne.symm hx]
      · simp only [beq_eq_false_iff_ne.mpr hy]
        exact ih
theorem Loc.get_set_self {σ : Loc} {x : Str} {v w : Slot} (h : σ.get x = some w) : (σ.set x v).get x = some v := by rw [Loc.get_set, if_pos rfl, h]; rfl
theorem Loc.get_set_ne {σ : Loc} {x y : Str} {v : Slot} (h : y ≠ x) : (σ.set x v).get y = σ.get y := by rw [Loc.get_set, if_neg h]
theorem Loc.set_dom {σ : Loc} {x y : Str} {v : Slot} (h : ((σ.set x v).get y).isSome = true) : (σ.get y).isSome = true := by
  rw [Loc.get_set] at h
  split at h
  · rename_i e; subst e; simpa using h
  · exact h
structure TrR (fr : List Addr) (K : GM) (h : Heap) : Prop where
  keep : ∀ b o, K b = some o → ∃ sl, h.get? b = some { o with slots := sl } ∧ (b ∉ fr → sl = o.slots)
theorem TrR.refl (fr : List Addr) (h : Heap) : TrR fr h.get? h := ⟨fun _ o e => ⟨o.slots, e, fun _ => rfl⟩⟩
theorem TrR.of_tr {fr : List Addr} {h h' : Heap} (t : Tr fr noOwn h h') : TrR fr h.get? h' := ⟨fun b o e => t.keep b o e fun x => x⟩
theorem TrR.tr {fr : List Addr} {h h' : Heap} (t : TrR fr h.get? h') : Tr fr noOwn h h' := ⟨fun b o e _ => t.keep b o e⟩
theorem TrR.trans {fr : List Addr} {K : GM} {own : Addr → Prop} {h h' : Heap} (x : TrR fr K h) (y : Tr fr own h h') (ho : ∀ b, own b → K b = none) : TrR fr K h' := by
  refine ⟨fun b o e => ?_⟩
  obtain ⟨sl, e₂, k₂⟩ := x.keep b o e
  obtain ⟨sl', e₃, k₃⟩ := y.keep b _ e₂ fun q => by rw [ho b q] at e; cases e
  exact ⟨sl', e₃, fun hb => (k₃ hb).trans (k₂ hb)⟩
theorem TrR.trans0 {fr : List Addr} {K : GM} {h h' : Heap} (x : TrR fr K h) (y : TrR fr h.get? h') : TrR fr K h' := x.trans y.tr fun _ q => q.elim
theorem TrR.exact {fr : List Addr} {K : GM} {h : Heap} (x : TrR fr K h) {b : Addr} {o : Obj} (e : K b = some o) (hb : b ∉ fr) : h.get? b = some o := by
  obtain ⟨sl, e', k⟩ := x.keep b o e
  rw [e', k hb]
theorem TrR.fresh {fr : List Addr} {K : GM} {h : Heap} (x : TrR fr K h) {b : Addr} (e : h.get? b = none) : K b = none := by
  cases q : K b with
  | none => rfl
  | some o => obtain ⟨sl, e', _⟩ := x.keep b o q; rw [e'] at e; cases e
theorem TrR.keeps {fr : List Addr} {K : GM} {h h' : Heap} (x : TrR fr K h) (k : ∀ b o, h.get? b = some o → h'.get? b = some o) : TrR fr K h' :=
  x.trans0 (.of_tr (Tr.of_keeps k))
theorem TrR.sameBut {fr : List Addr} {K : GM} {h h' : Heap} {a : Addr} (x : TrR fr K h) (k : Heap.SameBut a h h') (ha : K a = none) : TrR fr K h' :=
  x.trans (own := fun b => b = a) ⟨fun b o e n => ⟨o.slots, (k.2 b n).trans e, fun _ => rfl⟩⟩ fun b q => q ▸ ha
theorem TrR.mono {fr fr' : List Addr} {K : GM} {h : Heap} (x : TrR fr' K h) (hf : ∀ b, b ∈ fr' → b ∈ fr ∨ K b = none) : TrR fr K h := by
  refine ⟨fun b o e => ?_⟩
  obtain ⟨sl, e', k⟩ := x.keep b o e
  exact ⟨sl, e', fun hb => k fun hb' => (hf b hb').elim hb fun q => by rw [q] at e; cases e⟩
inductive DictAt (prog : Program) (w : World) (h : Heap) (a : Addr) (ks : List (List UInt8)) : Prop
  | mk (o : Obj) (es : Array DictEntry) (ep : Nat) (h1 : h.get? a = some o) (h2 : o.ExactDict) (h3 : o.data = .dict es ep) (h4 : KeysOf (bytesKind prog w) es) (h5 : ∀ k, findBy (bytesKind prog w).is es k = if ks.contains k then some (.bool true) else none) (h6 : es.size ≤ ks.length)
section
variable {prog : Program} {w : World} {A : Around} {E : Value → Shared → Prop} {s : Shared}
theorem DictAt.mapOf {h : Heap} {a : Addr} {ks : List (List UInt8)} (d : DictAt prog w h a ks) : h.MapOf (bytesKind prog w) a (fun k => if ks.contains k then some (.bool true) else none) :=
  let ⟨o, es, ep, ho, hc, hd, hk, hf, _⟩ := d; ⟨o, es, ep, ho, hc, hd, hk, hf⟩
theorem DictAt.keep {h h' : Heap} {a : Addr} {ks : List (List UInt8)} (d : DictAt prog w h a ks) (k : ∀ o, h.get? a = some o → h'.get? a = some o) : DictAt prog w h' a ks :=
  let ⟨o, es, ep, ho, r1, r2, r3, r4, r5⟩ := d; ⟨o, es, ep, k o ho, r1, r2, r3, r4, r5⟩
theorem DictAt.get {h : Heap} {a : Addr} {ks : List (List UInt8)} (d : DictAt prog w h a ks) : ∃ o, h.get? a = some o := let ⟨o, _, _, ho, _, _, _, _, _⟩ := d; ⟨o, ho⟩
theorem DictAt.new (h : Heap) : DictAt prog w (h.push { cls := .type "dict", data := .dict #[] }) h.objs.size [] :=
  ⟨_, #[], 0, Heap.get?_push_size _ rfl, ⟨rfl, rfl, rfl⟩, rfl, fun _ he => by simp at he, fun _ => rfl, by simp⟩
theorem DictAt.in {d : Addr} {ks : List (List UInt8)} {b : List UInt8} {t : Tok} {Q : Value → Shared → Prop} (D : DictAt prog w s.heap d ks) (hd : (d == sysModules) = false)
    (h : Q (.bool (ks.contains b)) { s with toks := s.toks + 1 }) : wpAny (model prog w) A (compareOp .In (.bytes b.toArray t) (.ref d)) Q E s := by
  refine wpAny_in_of (k := b) (by simp [bytesKind, isBytes]) hd D.mapOf ?_
  cases hc : ks.contains b <;> rw [hc] at h <;> exact h
theorem dictSet_at {d : Addr} {ks : List (List UInt8)} {b : List UInt8} {t : Tok} {Q : Unit → Shared → Prop} (D : DictAt prog w s.heap d ks) (hl : ks.length ≤ sizeLine)
    (hQ : ∀ h', DictAt prog w h' d (if ks.contains b then ks else ks ++ [b]) → Heap.SameBut d s.heap h' → Q () { s with heap := h', toks := s.toks + 1 }) :
    wpAny (model prog w) A (dictSet d (.bytes b.toArray t) (.bool true)) Q E s := by
  obtain ⟨o, es, ep, ho, hc, hd, hk, hf, hz⟩ := D
  have hkey : (bytesKind prog w).is b (.bytes b.toArray t) = true := by simp [bytesKind, isBytes]
  unfold dictSet
  try with_reducible refine wpAny_holding ?_
  refine wpAny_bind ((bytesKind prog w).pyHash hkey ?_)
  unfold dictSetHashed
  try with_reducible refine wpAny_holding ?_
  refine wpAny_bind (wpAny_dictFind_of (s := { s with toks := s.toks + 1 }) hkey ho hd hk ?_)
  have hb := hf b
  rw [findBy_of_findIdx?] at hb
  cases hi : es.findIdx? fun e => (bytesKind prog w).is b e.key with
  | some i =>
    rw [hi] at hb
    have hcon : ks.contains b = true := by
      cases q : ks.contains b with
      | true => rfl
      | false =>
        rw [q] at hb
        obtain ⟨hlt, _⟩ := Array.findIdx?_eq_some_iff_getElem.mp hi
        simp [Array.getElem?_eq_getElem hlt] at hb
    refine wpAny_bind (wpAny_rule (wpAny_bind (wpAny_updateDict (s := { s with toks := s.toks + 1 }) ho hd (wpAny_point (hQ _ ⟨_, _, ep, Heap.get?_update_self _ ho (Obj.isFreed_of_dict (Obj.data_mapDict hd _)),
      hc.mapDict _, Obj.data_mapDict hd _, hk.modify _ _, fun x => ?_, ?_⟩ (Heap.SameBut.update ..))))))
    · rw [findBy_modify (bytesKind prog w).is (bytesKind prog w).inj es b x (.bool true) i hi, hf, hcon]
      by_cases hx : x = b
      · subst hx; simp; simpa using hcon
      · simp [hx]
    · rw [hcon]; simpa using hz
  | none =>
    rw [hi] at hb
    have hcon : ks.contains b = false := by
      cases q : ks.contains b with
      | false => rfl
      | true => rw [q] at hb; simp at hb
    refine wpAny_bind (wpAny_rule (wpAny_updateDictKeys (hz := Nat.le_trans hz hl) (s := { s with toks := s.toks + 1 }) ho hd (hQ _ ⟨_, _, ep + 1, Heap.get?_update_self _ ho (Obj.isFreed_of_dict (Obj.data_mapDictKeys hd _)),
      hc.mapDictKeys _, Obj.data_mapDictKeys hd _, hk.push hkey _, fun x => ?_, ?_⟩ (Heap.SameBut.update ..))))
    · rw [findBy_push (bytesKind prog w).is es b x _ _ (.bool true) (KeyKind.is_eq_decide hkey) hi, hf, hcon]
      by_cases hx : x = b
      · subst hx; simp
      · simp [hx]
    · rw [hcon]; simpa using hz
theorem DictAt.set {d : Addr} {ks : List (List UInt8)} {b : List UInt8} {t : Tok} {Q : Unit → Shared → Prop} (D : DictAt prog w s.heap d ks) (hl : ks.length ≤ sizeLine)
    (hQ : ∀ h', DictAt prog w h' d (if ks.contains b then ks else ks ++ [b]) → Heap.SameBut d s.heap h' → Q () { s with heap := h', toks := s.toks + 1 }) :
    wpAny (model prog w) A (setItem (.ref d) (.bytes b.toArray t) (.bool true)) Q E s := by
  have hT := D.mapOf.typeIs
  unfold setItem
  try with_reducible refine wpAny_holding ?_
  refine wpAny_bind (wpAny_sequenceKey hT (by decide) ?_)
  refine wpAny_bind (wpAny_callSpecial?_slot (name := Str.ofString "__setitem__") hT slot_dict_setitem
    (wpAny_call_entry slot_dict_setitem hT entry_dict_setitem ?_ (args_dict_setitem _ _ _)))
  show wpAny _ _ (Builtin.Dict.notOrdered "__setitem__" ⟨[.ref d, .bytes b.toArray t, .bool true], []⟩ >>= _) _ _ s
  refine wpAny_bind (wpAny_notOrdered_dict hT ?_)
  show wpAny _ _ (dictSet d (.bytes b.toArray t) (.bool true) >>= _) _ _ s
  exact wpAny_bind (dictSet_at D hl fun h' hm' hs' => wpAny_pure ⟨.none, rfl, wpAny_pure (hQ h' hm' hs')⟩)
end
end Mine
set_option maxRecDepth 100000
set_option linter.unusedVariables false
namespace Mine
open PySem PyProof.Rows PySem.W
theorem ns_get {h : Heap} {L : Addr} {m : Str → Option Value} (n : h.Ns L m) : ∃ o es ep, h.get? L = some o ∧ o.data = .dict es ep := by
  obtain ⟨o, es, ep, ho, hd, _⟩ := n
  exact ⟨o, es, ep, ho, by simpa using hd⟩
inductive OwnOk (G : GM) (h : Heap) (u : Option Value) (xs : List PV) : Prop
  | mk (a : Addr) (o : Obj) (vs : List Value) (n : Nat) (h1 : u = some (.ref a)) (h2 : h.get? a = some o) (h3 : o.cls = .type "list") (h4 : o.dict = none) (h5 : o.data = .seq vs.toArray n) (h6 : RepL G vs xs) (h7 : G a = none)
noncomputable def SlotOk (prog : Program) (w : World) (G : GM) (h : Heap) (u : Option Value) : Slot → Prop
  | .unb => True
  | .val p => ∃ v, u = some v ∧ Rep G v p
  | .own xs => OwnOk G h u xs
  | .dict ks => ∃ a, u = some (.ref a) ∧ DictAt prog w h a ks ∧ G a = none
noncomputable def isOwn : Slot → Bool
  | .own _ => true
  | .dict _ => true
  | _ => false
noncomputable def Owned (σ : Loc) (m : Str → Option Value) (x : Str) (a : Addr) : Prop := ∃ sl, σ.get x = some sl ∧ isOwn sl = true ∧ m x = some (.ref a)
theorem SlotOk.there {prog : Program} {w : World} {G : GM} {h : Heap} {u : Option Value} {sl : Slot} (x : SlotOk prog w G h u sl) (ho : isOwn sl = true) {a : Addr} (e : u = some (.ref a)) : (∃ o, h.get? a = some o) ∧ G a = none := by
  cases sl with
  | unb => cases ho
  | val => cases ho
  | own xs => obtain ⟨b, o, vs, n, h1, h2, _, _, _, _, h3⟩ := x; rw [e] at h1; cases h1; exact ⟨⟨o, h2⟩, h3⟩
  | dict ks => obtain ⟨b, h1, h2, h3⟩ := x; rw [e] at h1; cases h1; exact ⟨h2.get, h3⟩
theorem SlotOk.move {prog : Program} {w : World} {G G' : GM} {h h' : Heap} {u : Option Value} {sl : Slot} (x : SlotOk prog w G h u sl) (gs : GSub G G')
    (k : ∀ a, isOwn sl = true → u = some (.ref a) → (∀ o, h.get? a = some o → h'.get? a = some o) ∧ G' a = none) : SlotOk prog w G' h' u sl := by
  cases sl with
  | unb => trivial
  | val p => obtain ⟨v, h1, h2⟩ := x; exact ⟨v, h1, h2.mono gs⟩
  | own xs => obtain ⟨a, o, vs, n, h1, h2, h3, h4, h5, h6, h7⟩ := x; exact ⟨a, o, vs, n, h1, (k a rfl h1).1 o h2, h3, h4, h5, h6.mono gs, (k a rfl h1).2⟩
  | dict ks => obtain ⟨a, h1, h2, h3⟩ := x; exact ⟨a, h1, h2.keep (k a rfl h1).1, (k a rfl h1).2⟩
structure St (prog : Program) (w : World) (hB : Heap) (F : List Env) (sc : Scope) (L : Addr) (R K G : GM) (σ : Loc) (m : Str → Option Value) (h : Heap) : Prop where
  ns : h.Ns L m
  gin : GIn G h
  kept : TrR (framesOf F) K h
  rk : ∀ a, h.get? a = none → R a = none
  base : ∀ a o, hB.get? a = some o → G a = some o
  ff : h.FunFrames noHeap F
  gL : G L = none
  gfr : ∀ a ∈ framesOf F, G a = none
  dom : ∀ x, (σ.get x).isSome = true → sc.names.lookup x = some .local
  loc : ∀ x sl, σ.get x = some sl → SlotOk prog w G h (m x) sl
  own : ∀ x a, Owned σ m x a → a ≠ L ∧ a ∉ framesOf F ∧ R a = none
  inj : ∀ x y a, Owned σ m x a → Owned σ m y a → x = y
theorem FunFrames.get {F : List Env} {h : Heap} (hl : h.FunFrames noHeap F) {a : Addr} (ha : a ∈ framesOf F) : ∃ o, h.get? a = some o := by
  induction F with
  | nil => simp [framesOf] at ha
  | cons env rest ih =>
    obtain ⟨hk, ⟨L, o, hf, hn', ho, hd⟩, hr⟩ := hl
    unfold framesOf at ha
    rw [List.filterMap_cons, hf] at ha
    rcases List.mem_cons.mp ha with rfl | q
    · exact ⟨o, ho⟩
    · exact ih hr q
section
variable {prog : Program} {w : World} {hB : Heap} {F : List Env} {sc : Scope} {L : Addr} {R K G G' : GM} {σ : Loc} {m : Str → Option Value} {h h' : Heap}
theorem St.frame_get (S : St prog w hB F sc L R K G σ m h) {a : Addr} (ha : a ∈ framesOf F) : ∃ o, h.get? a = some o := FunFrames.get S.ff ha
theorem St.L_get (S : St prog w hB F sc L R K G σ m h) : ∃ o, h.get? L = some o := let ⟨o, _, _, ho, _⟩ := ns_get S.ns; ⟨o, ho⟩
theorem St.own_get (S : St prog w hB F sc L R K G σ m h) {x : Str} {a : Addr} (o : Owned σ m x a) : (∃ o, h.get? a = some o) ∧ G a = none := by
  obtain ⟨sl, h1, h2, h3⟩ := o
  exact (S.loc x sl h1).there h2 h3
theorem St.tr (S : St prog w hB F sc L R K G σ m h) (t : TrR (framesOf F) h.get? h') (g : GIn G' h') (gs : GSub G G') (gn : ∀ a o, G' a = some o → G a = some o ∨ h.get? a = none) :
    St prog w hB F sc L R K G' σ m h' := by
  have old : ∀ {a : Addr}, (∃ o, h.get? a = some o) → G a = none → G' a = none := by
    intro a ho hn
    cases q : G' a with
    | none => rfl
    | some x =>
      rcases gn a x q with h1 | h1
      · rw [hn] at h1; cases h1
      · obtain ⟨o, ho⟩ := ho; rw [h1] at ho; cases ho
  refine ⟨isNs_slots S.ns fun o ho => ?_, g, S.kept.trans0 t, fun a ha => S.rk a (t.fresh ha), fun a o e => gs _ _ (S.base a o e), FunFrames.tr S.ff t.tr fun _ _ x => x, old S.L_get S.gL, fun a ha => old (S.frame_get ha) (S.gfr a ha), S.dom, fun x sl e => ?_, S.own, S.inj⟩
  · obtain ⟨sl, e, _⟩ := t.keep L o ho; exact ⟨sl, e⟩
  · refine (S.loc x sl e).move gs fun a ho hu => ?_
    have O : Owned σ m x a := ⟨sl, e, ho, hu⟩
    exact ⟨fun o q => t.exact q (S.own x a O).2.1, old (S.own_get O).1 (S.own_get O).2⟩
theorem St.ext (S : St prog w hB F sc L R K G σ m h) (e : Ext G h G' h') : St prog w hB F sc L R K G' σ m h' := S.tr (.of_tr (Tr.of_keeps e.keep)) e.gin e.gs e.gn
theorem St.rekeep {K' : GM} (S : St prog w hB F sc L R K G σ m h) (k : TrR (framesOf F) K' h) : St prog w hB F sc L R K' G σ m h := { S with kept := k }
theorem St.put (S : St prog w hB F sc L R K G σ m h) {x : Str} {v : Value} {sl sl₀ : Slot} {m' : Str → Option Value} (hx : σ.get x = some sl₀) (hm : m' = fun y => if y = x then some v else m y)
    (ns : h'.Ns L m') (gin : GIn G' h') (kept : TrR (framesOf F) K h') (rk : ∀ a, h'.get? a = none → h.get? a = none) (gs : GSub G G') (ff : h'.FunFrames noHeap F) (gL : G' L = none) (gfr : ∀ a ∈ framesOf F, G' a = none)
    (hs : SlotOk prog w G' h' (some v) sl) (ho : isOwn sl = true → ∀ a, v = .ref a → a ≠ L ∧ a ∉ framesOf F ∧ R a = none ∧ ∀ y, y ≠ x → ¬ Owned σ m y a)
    (keep : ∀ y a, y ≠ x → Owned σ m y a → (∀ o, h.get? a = some o → h'.get? a = some o) ∧ G' a = none) :
    St prog w hB F sc L R K G' (σ.set x sl) m' h' := by
  subst hm
  have own_ne : ∀ {y : Str} {a : Addr}, y ≠ x → Owned (σ.set x sl) (fun y => if y = x then some v else m y) y a → Owned σ m y a := by
    rintro y a hy ⟨s', h1, h2, h3⟩
    rw [Loc.get_set_ne hy] at h1
    simp only at h3
    rw [if_neg hy] at h3
    exact ⟨s', h1, h2, h3⟩
  have own_self : ∀ {a : Addr}, Owned (σ.set x sl) (fun y => if y = x then some v else m y) x a → isOwn sl = true ∧ v = .ref a := by
    rintro a ⟨s', h1, h2, h3⟩
    rw [Loc.get_set_self hx] at h1
    cases h1
    simp only at h3
    rw [if_pos trivial] at h3
    exact ⟨h2, by injection h3⟩
  refine ⟨ns, gin, kept, fun a ha => S.rk a (rk a ha), fun a o e => gs _ _ (S.base a o e), ff, gL, gfr, fun y hy => S.dom y (Loc.set_dom hy), fun y s' hy => ?_, fun y a O => ?_, fun y z a O O' => ?_⟩
  · by_cases q : y = x
    · subst q
      rw [Loc.get_set_self hx] at hy
      cases hy
      rw [if_pos rfl]; exact hs
    · rw [Loc.get_set_ne q] at hy
      rw [if_neg q]
      exact (S.loc y s' hy).move gs fun a h1 h2 => keep y a q ⟨s', hy, h1, h2⟩
  · by_cases q : y = x
    · subst q
      obtain ⟨h1, h2⟩ := own_self O
      obtain ⟨a1, a2, a3, _⟩ := ho h1 a h2
      exact ⟨a1, a2, a3⟩
    · exact S.own y a (own_ne q O)
  · by_cases q : y = x
    · by_cases q' : z = x
      · rw [q, q']
      · subst q
        obtain ⟨h1, h2⟩ := own_self O
        exact absurd (own_ne q' O') ((ho h1 a h2).2.2.2 z q')
    · by_cases q' : z = x
      · subst q'
        obtain ⟨h1, h2⟩ := own_self O'
        exact absurd (own_ne q O) ((ho h1 a h2).2.2.2 y q)
      · exact S.inj y z a (own_ne q O) (own_ne q' O')
theorem FunFrames.sameBut {F : List Env} {h h' : Heap} (hl : h.FunFrames noHeap F) {a : Addr} (k : Heap.SameBut a h h') (ha : a ∉ framesOf F ∨ ∃ o es ep, h'.get? a = some o ∧ o.data = .dict es ep) : h'.FunFrames noHeap F := by
  induction F with
  | nil => trivial
  | cons env rest ih =>
    obtain ⟨hk, ⟨L, o, hf, hn', ho, hd⟩, hr⟩ := hl
    have hL : L ∈ framesOf (env :: rest) := by simp [framesOf, hf]
    refine ⟨hk, ?_, ih hr (ha.imp (fun q w => q ?_) id)⟩
    · by_cases q : L = a
      · subst q
        rcases ha with ha | ⟨o', es, ep, h1, h2⟩
        · exact absurd hL ha
        · exact ⟨L, o', hf, hn', h1, fun vs e => by rw [h2] at e; cases e⟩
      · exact ⟨L, o, hf, hn', (k.2 L q).trans ho, hd⟩
    · unfold framesOf at w ⊢
      rw [List.filterMap_cons, hf]
      exact List.mem_cons_of_mem _ w
theorem sameBut_free {a : Addr} (k : Heap.SameBut a h h') (ha : ∃ o, h.get? a = some o) (b : Addr) (e : h'.get? b = none) (ha' : ∃ o, h'.get? a = some o) : h.get? b = none := by
  by_cases q : b = a
  · subst q; obtain ⟨o, ho⟩ := ha'; rw [ho] at e; cases e
  · rw [← k.2 b q]; exact e
theorem St.store (S : St prog w hB F sc L R K G σ m h) (hK : K L = none) {x : Str} {v : Value} {sl sl₀ : Slot} (hx : σ.get x = some sl₀) (ns : h'.Ns L (fun y => if y = x then some v else m y)) (k : Heap.SameBut L h h')
    (hs : SlotOk prog w G h (some v) sl) (ho : isOwn sl = true → ∀ a, v = .ref a → a ≠ L ∧ a ∉ framesOf F ∧ R a = none ∧ ∀ y, y ≠ x → ¬ Owned σ m y a) :
    St prog w hB F sc L R K G (σ.set x sl) (fun y => if y = x then some v else m y) h' := by
  obtain ⟨o', es, ep, hL', hd'⟩ := ns_get ns
  refine S.put hx rfl ns (fun a o e => ?_) (S.kept.sameBut k hK) (fun a ha => sameBut_free k S.L_get a ha ⟨o', hL'⟩) (GSub.refl _) (FunFrames.sameBut S.ff k (.inr ⟨o', es, ep, hL', hd'⟩)) S.gL S.gfr ?_ ho ?_
  · have : a ≠ L := fun q => by subst q; rw [S.gL] at e; cases e
    exact (k.2 a this).trans (S.gin a o e)
  · refine hs.move (GSub.refl _) fun a h1 h2 => ⟨fun o e => ?_, ?_⟩
    · injection h2 with h2
      exact (k.2 a (ho h1 a h2).1).trans e
    · exact (hs.there h1 h2).2
  · intro y a hy O
    exact ⟨fun o e => (k.2 a (S.own y a O).1).trans e, (S.own_get O).2⟩
theorem St.storeVal (S : St prog w hB F sc L R K G σ m h) (hK : K L = none) {x : Str} {v : Value} {p : PV} {sl₀ : Slot} (hx : σ.get x = some sl₀) (ns : h'.Ns L (fun y => if y = x then some v else m y)) (k : Heap.SameBut L h h')
    (hr : Rep G v p) : St prog w hB F sc L R K G (σ.set x (.val p)) (fun y => if y = x then some v else m y) h' :=
  S.store hK hx ns k ⟨v, rfl, hr⟩ fun q => by cases q
theorem same_m {m : Str → Option Value} {x : Str} {v : Value} (h : m x = some v) : m = fun y => if y = x then some v else m y := by
  funext y
  by_cases q : y = x
  · subst q; rw [if_pos rfl, h]
  · rw [if_neg q]
theorem St.freeze (S : St prog w hB F sc L R K G σ m h) {x : Str} {xs : List PV} (hx : σ.get x = some (.own xs)) :
    ∃ a o, m x = some (.ref a) ∧ h.get? a = some o ∧ R a = none ∧ G a = none ∧ Rep (upd G a o) (.ref a) (.list xs) ∧ St prog w hB F sc L R K (upd G a o) (σ.set x (.val (.list xs))) m h := by
  obtain ⟨a, o, vs, n, h1, h2, h3, h4, h5, h6, h7⟩ := S.loc x _ hx
  have O : Owned σ m x a := ⟨_, hx, rfl, h1⟩
  obtain ⟨o1, o2, o3⟩ := S.own x a O
  have hr : Rep (upd G a o) (.ref a) (.list xs) := .list (upd_self ..) h3 h4 h5 (h6.mono (upd_sub h7))
  refine ⟨a, o, h1, h2, o3, h7, hr, ?_⟩
  refine S.put (G' := upd G a o) hx (same_m h1) (S.ns) (upd_in S.gin h2) S.kept (fun _ e => e) (upd_sub h7) S.ff ?_ ?_ ⟨_, rfl, hr⟩ (fun q => by cases q) ?_
  · unfold upd; rw [if_neg (Ne.symm o1)]; exact S.gL
  · intro b hb
    unfold upd
    rw [if_neg fun (q : b = a) => o2 (q ▸ hb)]
    exact S.gfr b hb
  · intro y b hy O'
    refine ⟨fun _ e => e, ?_⟩
    unfold upd
    rw [if_neg fun (q : b = a) => hy (S.inj y x a (q ▸ O') O)]
    exact (S.own_get O').2
theorem St.turn (S : St prog w hB F sc L R K G σ m h) {x : Str} {a : Addr} {sl sl₀ : Slot} (hx : σ.get x = some sl₀) (ho : isOwn sl₀ = true) (hm : m x = some (.ref a)) (hK : K a = none) (k : Heap.SameBut a h h')
    (hs : SlotOk prog w G h' (some (.ref a)) sl) (ho' : isOwn sl = true) : St prog w hB F sc L R K G (σ.set x sl) m h' := by
  have O : Owned σ m x a := ⟨_, hx, ho, hm⟩
  obtain ⟨o1, o2, o3⟩ := S.own x a O
  have hG := (S.own_get O).2
  refine S.put (G' := G) hx (same_m hm) ?_ (fun b o e => ?_) (S.kept.sameBut k hK) (fun b hb => sameBut_free k (S.own_get O).1 b hb (hs.there ho' rfl).1) (GSub.refl _) (FunFrames.sameBut S.ff k (.inl o2)) S.gL S.gfr hs ?_ ?_
  · exact isNs_slots S.ns fun o e => ⟨o.slots, (k.2 L (Ne.symm o1)).trans e⟩
  · have : b ≠ a := fun q => by subst q; rw [hG] at e; cases e
    exact (k.2 b this).trans (S.gin b o e)
  · intro _ b hb
    cases hb
    exact ⟨o1, o2, o3, fun y hy O' => hy (S.inj y x a O' O)⟩
  · intro y b hy O'
    have : b ≠ a := fun q => by subst q; exact hy (S.inj y x _ O' O)
    exact ⟨fun o e => (k.2 b this).trans e, (S.own_get O').2⟩
end
end Mine
set_option maxRecDepth 100000
set_option linter.unusedVariables false
namespace Mine
open PySem PyProof.Rows PySem.W
noncomputable def Gr (R G G' : GM) : Prop := GSub G G' ∧ ∀ a o, G' a = some o → G a = some o ∨ R a = none
theorem Gr.refl (R G : GM) : Gr R G G := ⟨GSub.refl _, fun _ _ e => .inl e⟩
theorem Gr.trans {R G₁ G₂ G₃ : GM} (x : Gr R G₁ G₂) (y : Gr R G₂ G₃) : Gr R G₁ G₃ := ⟨x.1.trans y.1, fun a o e => (y.2 a o e).elim (x.2 a o) .inr⟩
noncomputable def scopeOk (sc : Scope) : Bool :=
  sc.kind == .function && !sc.isGenerator && !sc.isCoroutine && (sc.names.lookup (Str.ofString "__debug__")).isNone && sc.names.all fun p => p.2 != .cell && (p.2 != .local || sc.names.lookup p.1 == some .local)
inductive FnThere (hB : Heap) (gA bA : Addr) (fn : Fn) (a : Addr) : Prop
  | mk (o : Obj) (fd : FuncData) (h1 : hB.get? a = some o) (h2 : o.data = .func fd) (h3 : hB.CodeRec fd.code fd.qualname) (h4 : fd.body = .stmts fn.body) (h5 : fd.scope = fn.scope) (h6 : fd.globals = gA) (h7 : fd.builtins = bA)
    (h8 : ∀ us : List Value, us.length = fn.params.length → bindArgs fd ⟨us, []⟩ = pure (fn.params.zip us))
structure FnOk (hB : Heap) (gA bA : Addr) (fn : Fn) (a : Addr) : Prop where
  there : FnThere hB gA bA fn a
  scope : scopeOk fn.scope = true
structure BaseOk (C : Ctx) (hB : Heap) (gA bA : Addr) (mg mb : Str → Option Value) : Prop where
  g : hB.Ns gA mg
  b : hB.Ns bA mb
  lim : hB.NoLimit
  sm : ∃ o, hB.get? sysModules = some o
  glob : ∀ x v, C.glob x = some v → ∃ u, (mg x = some u ∨ mg x = none ∧ mb x = some u) ∧ Rep hB.get? u v
  fns : ∀ f fn, C.fns f = some fn → ∃ a, mg f = some (.ref a) ∧ FnOk hB gA bA fn a
  len : mg "len" = none ∧ mb "len" = some (.builtin "len")
  bytes : mg "bytes" = none ∧ mb "bytes" = some (.type "bytes")
  type : mg "type" = none ∧ mb "type" = some (.type "type")
  range : mg "range" = none ∧ mb "range" = some (.type "range")
  ve : mg "ValueError" = none ∧ mb "ValueError" = some (.type "ValueError")
structure Amb (C : Ctx) (A : Around) (n : Nat) (F : List Env) : Prop where
  handled : A.handled = none
  depth : A.depth + n < recursionLimit
  units : A.units + 4 * n + 40 < cLine
  frames : C.exc = true → A.frames = some F
structure EnvOk (gA bA : Addr) (env : Env) (sc : Scope) (L : Addr) : Prop where
  scope : env.scope = sc
  kind : sc.kind = .function
  dbg : sc.names.lookup (Str.ofString "__debug__") = none
  loc : env.locals = L
  glob : env.globals = gA
  bi : env.builtins = bA
section
variable (prog : Program) (w : World) (C : Ctx) (hB : Heap)
inductive PE {α β : Type} (F : List Env) (sc : Scope) (L : Addr) (R K G : GM) (m : Str → Option Value) (s : Shared) (r : Rs (α × Loc)) (val : GM → β → α → Prop) (v : β) (s' : Shared) : Prop
  | mk (p : α) (σ' : Loc) (G' : GM) (h' : Heap) (tk : Nat) (e1 : r = .ok (p, σ')) (e2 : s' = { s with heap := h', toks := tk }) (S' : St prog w hB F sc L R K G' σ' m h') (g : Gr R G G') (hv : val G' v p)
inductive PX {α : Type} (F : List Env) (K : GM) (s : Shared) (r : Rs α) (e : Value) (s' : Shared) : Prop
  | mk (e1 : r = .exc) (e2 : C.exc = true) (x : Addr) (h' : Heap) (tk : Nat) (e3 : e = .ref x) (e4 : s' = { s with heap := h', toks := tk }) (q : TrR (framesOf F) K h' ∧ h'.FunFrames noHeap F ∧ ExcAt (fun b => K b = none ∧ b ∉ framesOf F) False x h')
noncomputable def FlOk (fl : Flow) (G' : GM) : Outc → Prop
  | .next => fl = .next
  | .ret p => ∃ v, fl = .ret v ∧ Rep G' v p
inductive PS (F : List Env) (sc : Scope) (L : Addr) (R G : GM) (s : Shared) (r : Rs (Outc × Loc)) (fl : Flow) (s' : Shared) : Prop
  | mk (o : Outc) (σ' : Loc) (m' : Str → Option Value) (G' : GM) (h' : Heap) (tk : Nat) (e1 : r = .ok (o, σ')) (e2 : s' = { s with heap := h', toks := tk }) (S' : St prog w hB F sc L R R G' σ' m' h') (g : Gr R G G') (hf : FlOk fl G' o)
end
section
variable {prog : Program} {w : World} {C : Ctx} {hB : Heap} {F : List Env} {sc : Scope} {L : Addr} {R K G : GM} {m : Str → Option Value} {s : Shared}
theorem PX.cast {α β : Type} {F : List Env} {K : GM} {s s₁ : Shared} {h₁ : Heap} {t₁ : Nat} {r : Rs α} {r' : Rs β} {e : Value} {s' : Shared} (x : PX C F K { s with heap := h₁, toks := t₁ } r e s') (hr : r = .exc → r' = .exc) : PX C F K s r' e s' := by
  obtain ⟨h1, h2, x, h', tk, h3, h4, h5⟩ := x
  exact ⟨hr h1, h2, x, h', tk, h3, h4, h5⟩
theorem PX.cast0 {α β : Type} {F : List Env} {K : GM} {s : Shared} {r : Rs α} {r' : Rs β} {e : Value} {s' : Shared} (x : PX C F K s r e s') (hr : r = .exc → r' = .exc) : PX C F K s r' e s' := by
  obtain ⟨h1, h2, x, h', tk, h3, h4, h5⟩ := x
  exact ⟨hr h1, h2, x, h', tk, h3, h4, h5⟩
theorem PE.cast {α β : Type} {val : GM → β → α → Prop} {G₁ : GM} {h₁ : Heap} {t₁ : Nat} {r r' : Rs (α × Loc)} {v : β} {s' : Shared} (x : PE prog w hB F sc L R K G₁ m { s with heap := h₁, toks := t₁ } r val v s') (g : Gr R G G₁) (hr : r = r') :
    PE prog w hB F sc L R K G m s r' val v s' := by
  obtain ⟨p, σ', G', h', tk, h1, h2, h3, h4, h5⟩ := x
  exact ⟨p, σ', G', h', tk, hr ▸ h1, h2, h3, g.trans h4, h5⟩
theorem PS.cast {G₁ : GM} {h₁ : Heap} {t₁ : Nat} {r r' : Rs (Outc × Loc)} {v : Flow} {s' : Shared} (x : PS prog w hB F sc L R G₁ { s with heap := h₁, toks := t₁ } r v s') (g : Gr R G G₁) (hr : r = r') :
    PS prog w hB F sc L R G s r' v s' := by
  obtain ⟨o, σ', m', G', h', tk, h1, h2, h3, h4, h5⟩ := x
  exact ⟨o, σ', m', G', h', tk, hr ▸ h1, h2, h3, g.trans h4, h5⟩
variable {M : Model} {A : Around}
theorem bnE {α β : Type} {x : Rs α} {f : α → Rs β} {r : Rs β} (hr : r = x.bind f) (q : x = .exc) : r = .exc := by rw [hr, q]; rfl
theorem bnO {α β : Type} {x : Rs α} {f : α → Rs β} {r : Rs β} {p : α} (hr : r = x.bind f) (q : x = .ok p) : r = f p := by rw [hr, q]; rfl
theorem bnN {α β : Type} {x : Rs α} {f : α → Rs β} {r : Rs β} (hr : r = x.bind f) (h : r ≠ .stuck) : x ≠ .stuck := fun q => h (by rw [hr, q]; rfl)
theorem bnF {α β : Type} {o : Option α} {f : α → Rs β} {r : Rs β} (hr : r = (Rs.of o).bind f) (h : r ≠ .stuck) : ∃ a, o = some a ∧ r = f a := by
  cases o with
  | none => exact absurd hr h
  | some a => exact ⟨a, rfl, hr⟩
theorem bind_ns {α β : Type} {r : Rs α} {f : α → Rs β} (h : r.bind f ≠ .stuck) : r ≠ .stuck := fun q => by subst q; exact h rfl
theorem PE.here {α β : Type} {val : GM → β → α → Prop} {σ : Loc} {p : α} {v : β} (S : St prog w hB F sc L R K G σ m s.heap) (hv : val G v p) : PE prog w hB F sc L R K G m s (.ok (p, σ)) val v s :=
  ⟨p, σ, G, s.heap, s.toks, rfl, rfl, S, Gr.refl .., hv⟩
theorem PE.hereT {α β : Type} {val : GM → β → α → Prop} {σ : Loc} {p : α} {v : β} (tk : Nat) (S : St prog w hB F sc L R K G σ m s.heap) (hv : val G v p) : PE prog w hB F sc L R K G m s (.ok (p, σ)) val v { s with toks := tk } :=
  ⟨p, σ, G, s.heap, tk, rfl, rfl, S, Gr.refl .., hv⟩
theorem St.grow {σ : Loc} {h h' : Heap} {G' : GM} (S : St prog w hB F sc L R K G σ m h) (e : Ext G h G' h') : Gr R G G' := ⟨e.gs, fun a o q => (e.gn a o q).imp id (S.rk a)⟩
theorem PE.op {σ : Loc} {p : PV} (S : St prog w hB F sc L R K G σ m s.heap) : OpPost G s p (PE prog w hB F sc L R K G m s (.ok (p, σ)) (fun G' v p => Rep G' v p)) :=
  fun v G' h' tk e hr => ⟨p, σ, G', h', tk, rfl, rfl, S.ext e, S.grow e, hr⟩
end
end Mine
set_option maxRecDepth 100000
set_option linter.unusedVariables false
set_option linter.unusedSimpArgs false
namespace Mine
open PySem PyProof.Rows PySem.W
noncomputable def VR : GM → Value → PV → Prop := fun G v p => Rep G v p
noncomputable def VRs : GM → List Value → List PV → Prop := fun G v p => RepL G v p
noncomputable def VB : GM → Bool → Bool → Prop := fun _ b p => b = p
section
variable (prog : Program) (w : World) (C : Ctx) (hB : Heap) (gA bA : Addr)
noncomputable def SEx (E : Ev) (n : Nat) : Prop := ∀ {A : Around} {F : List Env} {sc : Scope} {L : Addr} {env : Env} {R K G : GM} {σ : Loc} {m : Str → Option Value} {s : Shared} (e : Expr),
  Amb C A n F → EnvOk gA bA env sc L → St prog w hB F sc L R K G σ m s.heap → E.ex sc e σ ≠ .stuck →
  wpAny (model prog w) A (eval e env) (PE prog w hB F sc L R K G m s (E.ex sc e σ) VR) (PX C F K s (E.ex sc e σ)) s
noncomputable def STr (E : Ev) (n : Nat) : Prop := ∀ {A : Around} {F : List Env} {sc : Scope} {L : Addr} {env : Env} {R K G : GM} {σ : Loc} {m : Str → Option Value} {s : Shared} (e : Expr),
  Amb C A n F → EnvOk gA bA env sc L → St prog w hB F sc L R K G σ m s.heap → E.tr sc e σ ≠ .stuck →
  wpAny (model prog w) A (isTrue e env (eval e env)) (PE prog w hB F sc L R K G m s (E.tr sc e σ) VB) (PX C F K s (E.tr sc e σ)) s
noncomputable def SSs (E : Ev) (n : Nat) : Prop := ∀ {A : Around} {F : List Env} {sc : Scope} {L : Addr} {env : Env} {R G : GM} {σ : Loc} {m : Str → Option Value} {s : Shared} (b : List Stmt),
  Amb C A n F → EnvOk gA bA env sc L → St prog w hB F sc L R R G σ m s.heap → R L = none → (C.exc = true → ∃ outer, F = env :: outer ∧ env.frame = some L) → E.ss sc b σ ≠ .stuck →
  wpAny (model prog w) A (execs b env) (PS prog w hB F sc L R G s (E.ss sc b σ)) (PX C F R s (E.ss sc b σ)) s
inductive CR (F : List Env) (G : GM) (s : Shared) (r : Rs PV) (v : Value) (s' : Shared) : Prop
  | mk (p : PV) (G' : GM) (h' : Heap) (tk : Nat) (e1 : r = .ok p) (e2 : s' = { s with heap := h', toks := tk }) (t : TrR (framesOf F) s.heap.get? h') (g : GIn G' h') (gr : Gr s.heap.get? G G') (hv : Rep G' v p)
noncomputable def SCl (E : Ev) (n : Nat) : Prop := ∀ {A : Around} {F : List Env} {G : GM} {s : Shared} {f : Str} {fn : Fn} {a : Addr} {vs : List PV} {us : List Value},
  Amb C A n F → GIn G s.heap → (∀ a o, hB.get? a = some o → G a = some o) → s.heap.FunFrames noHeap F → (∀ a ∈ framesOf F, G a = none) → C.fns f = some fn → FnOk hB gA bA fn a → RepL G us vs → E.cl f vs ≠ .stuck →
  codeAny (model prog w) A (.call (.ref a) ⟨us, []⟩) (fun r s' => match r with
    | .ok (.ret v) => CR F G s (E.cl f vs) v s'
    | .ok _ => False
    | .error e => PX C F s.heap.get? s (E.cl f vs) e s') s
structure Snd (E : Ev) (n : Nat) : Prop where
  ex : SEx prog w C hB gA bA E n
  tr : STr prog w C hB gA bA E n
  ss : SSs prog w C hB gA bA E n
  cl : SCl prog w C hB gA bA E n
end
theorem Amb.pred {C : Ctx} {A : Around} {n : Nat} {F : List Env} (x : Amb C A (n + 1) F) : Amb C A n F := ⟨x.1, by have := x.2; (exact (linS [_, _, _] [.s 1 (.a (.v 0) (.a (.v 1) (.n 1))) (.v 2)] 1 (.a (.v 0) (.v 1)) (.v 2) rfl this)), by have := x.3; (exact (linS [_, _, _] [.s 1 (.a (.a (.v 0) (.m 4 (.a (.v 1) (.n 1)))) (.n 40)) (.v 2)] 1 (.a (.a (.v 0) (.m 4 (.v 1))) (.n 40)) (.v 2) rfl this)), x.4⟩
section
variable {prog : Program} {w : World} {C : Ctx} {hB : Heap} {gA bA : Addr} {mg mb : Str → Option Value} {E : Ev} {n : Nat}
variable {A : Around} {F : List Env} {sc : Scope} {L : Addr} {env : Env} {R K G : GM} {σ : Loc} {m : Str → Option Value} {s : Shared}
theorem EnvOk.notDbg (he : EnvOk gA bA env sc L) {x : Str} {k : NameKind} (h : sc.names.lookup x = some k) : (x == ("__debug__" : Str)) = false := by
  refine beq_eq_false_iff_ne.mpr fun q => ?_
  have := he.dbg
  rw [show Str.ofString "__debug__" = x from q.symm, h] at this
  cases this
theorem EnvOk.kindOf (he : EnvOk gA bA env sc L) (x : Str) : env.kindOf x = sc.names.lookup x := by unfold Env.kindOf; rw [he.scope]
theorem isG_eq {x : Str} (h : isG sc x = true) : sc.names.lookup x = some .globalImplicit := by unfold isG at h; exact eq_of_beq h
theorem St.base_in (S : St prog w hB F sc L R K G σ m s.heap) {a : Addr} {o : Obj} (e : hB.get? a = some o) : s.heap.get? a = some o := S.gin _ _ (S.base _ _ e)
theorem St.ns_base (S : St prog w hB F sc L R K G σ m s.heap) {a : Addr} {mg : Str → Option Value} (n : hB.Ns a mg) : s.heap.Ns a mg := isNs_slots n fun o ho => ⟨o.slots, S.base_in ho⟩
theorem load_local (he : EnvOk gA bA env sc L) (S : St prog w hB F sc L R K G σ m s.heap) {x : Str} {pos : Pos} {v : Value} {Q : Value → Shared → Prop} {X : Value → Shared → Prop} (hd : (σ.get x).isSome = true) (hm : m x = some v) (h : Q v s) :
    wpAny (model prog w) A (eval (.Name x pos) env) Q X s :=
  wpAny_Name (wpAny_loadName_local (by rw [he.scope]; exact he.kind) (by rw [he.kindOf]; exact S.dom x hd) (he.loc ▸ S.ns) hm h) (he.notDbg (S.dom x hd))
theorem load_global (B : BaseOk C hB gA bA mg mb) (he : EnvOk gA bA env sc L) (S : St prog w hB F sc L R K G σ m s.heap) {x : Str} {pos : Pos} {v : Value} {Q : Value → Shared → Prop} {X : Value → Shared → Prop} (hd : isG sc x = true) (hm : mg x = some v) (h : Q v s) :
    wpAny (model prog w) A (eval (.Name x pos) env) Q X s :=
  Calls.Name_function_global (by rw [he.scope]; exact he.kind) (by rw [he.kindOf]; exact isG_eq hd) (Calls.loadGlobal_global (by rw [he.glob]; exact S.ns_base B.g) hm h) (he.notDbg (isG_eq hd))
theorem load_builtin (B : BaseOk C hB gA bA mg mb) (he : EnvOk gA bA env sc L) (S : St prog w hB F sc L R K G σ m s.heap) {x : Str} {pos : Pos} {v : Value} {Q : Value → Shared → Prop} {X : Value → Shared → Prop} (hd : isG sc x = true) (hn : mg x = none ∧ mb x = some v) (h : Q v s) :
    wpAny (model prog w) A (eval (.Name x pos) env) Q X s :=
  Calls.Name_function_global (by rw [he.scope]; exact he.kind) (by rw [he.kindOf]; exact isG_eq hd) (Calls.loadGlobal_builtin (by rw [he.glob]; exact S.ns_base B.g) hn.1 (by rw [he.bi]; exact S.ns_base B.b) hn.2 h) (he.notDbg (isG_eq hd))
theorem name_ok (B : BaseOk C hB gA bA mg mb) (he : EnvOk gA bA env sc L) (S : St prog w hB F sc L R K G σ m s.heap) {x : Str} {pos : Pos} (hns : nameE C sc x σ ≠ .stuck) :
    wpAny (model prog w) A (eval (.Name x pos) env) (PE prog w hB F sc L R K G m s (nameE C sc x σ) VR) (PX C F K s (nameE C sc x σ)) s := by
  unfold nameE at hns ⊢
  cases hx : σ.get x with
  | some sl =>
    rw [hx] at hns
    cases sl with
    | unb => exact absurd rfl hns
    | dict => exact absurd rfl hns
    | val v =>
      obtain ⟨u, hm, hr⟩ := S.loc x _ hx
      exact load_local he S (by rw [hx]; rfl) hm (PE.here S hr)
    | own xs =>
      obtain ⟨a, o, hm, ho, hR, hG, hr, S'⟩ := S.freeze hx
      refine load_local he S (by rw [hx]; rfl) hm ⟨_, _, _, s.heap, s.toks, rfl, rfl, S', ⟨upd_sub hG, fun b x q => ?_⟩, hr⟩
      unfold upd at q
      by_cases hb : b = a
      · exact .inr (hb ▸ hR)
      · rw [if_neg hb] at q; exact .inl q
  | none =>
    rw [hx] at hns
    simp only at hns ⊢
    by_cases hg : isG sc x = true
    · rw [if_pos hg] at hns ⊢
      cases hv : C.glob x with
      | none => rw [hv] at hns; exact absurd rfl hns
      | some v =>
        obtain ⟨u, hm, hr⟩ := B.glob x v hv
        rcases hm with hm | hm
        · exact load_global B he S hg hm (PE.here S (hr.mono fun a o e => S.base a o e))
        · exact load_builtin B he S hg hm (PE.here S (hr.mono fun a o e => S.base a o e))
    · rw [if_neg hg] at hns; exact absurd rfl hns
theorem const_ok (S : St prog w hB F sc L R K G σ m s.heap) {c : Const} {v : PV} {k : Nat} {pos : Pos} {X : Value → Shared → Prop} (h : constP c = some v) :
    wpAny (model prog w) A (eval (.Constant c k pos) env) (PE prog w hB F sc L R K G m s (.ok (v, σ)) VR) X s := by
  cases c <;> first | exact noSome h | skip
  all_goals cases (Option.some.inj h)
  · exact fun _ _ _ => PE.here S .none
  · exact fun _ _ _ => PE.here S (.bool _)
  · exact fun _ _ _ => PE.hereT _ S (.int _ _)
  · exact fun _ _ _ => PE.hereT _ S (.str _ _)
  · exact fun _ _ _ => PE.hereT _ S (.bytes _ _)
theorem runE {α β : Type} {M : Model} {t : Sem β} {r₁ : Rs (α × Loc)} {val₁ : GM → β → α → Prop} {Q : β → Shared → Prop} {X : Value → Shared → Prop} (h₁ : wpAny M A t (PE prog w hB F sc L R K G m s r₁ val₁) (PX C F K s r₁) s)
    (hok : ∀ p σ₁ v G₁ h₁ tk, r₁ = .ok (p, σ₁) → St prog w hB F sc L R K G₁ σ₁ m h₁ → Gr R G G₁ → val₁ G₁ v p → Q v { s with heap := h₁, toks := tk }) (hex : ∀ e s', PX C F K s r₁ e s' → X e s') : wpAny M A t Q X s :=
  wpAny_mono h₁ (fun v s' x => by obtain ⟨p, σ₁, G₁, h₁, tk, e1, rfl, S₁, g₁, hv⟩ := x; exact hok p σ₁ v G₁ h₁ tk e1 S₁ g₁ hv) hex
theorem PE.fin {α β : Type} {val : GM → β → α → Prop} {σ₂ : Loc} {G₂ : GM} {h₂ : Heap} {tk : Nat} {p : α} {v : β} (S₂ : St prog w hB F sc L R K G₂ σ₂ m h₂) (g : Gr R G G₂) (hv : val G₂ v p) :
    PE prog w hB F sc L R K G m s (.ok (p, σ₂)) val v { s with heap := h₂, toks := tk } := ⟨p, σ₂, G₂, h₂, tk, rfl, rfl, S₂, g, hv⟩
theorem PE.finR {α β : Type} {val : GM → β → α → Prop} {σ₂ : Loc} {G₂ : GM} {h₂ : Heap} {tk : Nat} {p : α} {v : β} {r : Rs (α × Loc)} (hr : r = .ok (p, σ₂)) (S₂ : St prog w hB F sc L R K G₂ σ₂ m h₂) (g : Gr R G G₂) (hv : val G₂ v p) :
    PE prog w hB F sc L R K G m s r val v { s with heap := h₂, toks := tk } := ⟨p, σ₂, G₂, h₂, tk, hr, rfl, S₂, g, hv⟩
theorem PE.opR {σ₂ : Loc} {G₂ : GM} {h₂ : Heap} {tk : Nat} {p : PV} {r : Rs (PV × Loc)} (hr : r = .ok (p, σ₂)) (S₂ : St prog w hB F sc L R K G₂ σ₂ m h₂) (g : Gr R G G₂) :
    OpPost G₂ { s with heap := h₂, toks := tk } p (PE prog w hB F sc L R K G m s r VR) :=
  fun v G' h' tk e hv => ⟨p, σ₂, G', h', tk, hr, rfl, S₂.ext e, g.trans (S₂.grow e), hv⟩
theorem PE.op2 {σ₂ : Loc} {G₂ : GM} {h₂ : Heap} {tk : Nat} {p : PV} (S₂ : St prog w hB F sc L R K G₂ σ₂ m h₂) (g : Gr R G G₂) :
    OpPost G₂ { s with heap := h₂, toks := tk } p (PE prog w hB F sc L R K G m s (.ok (p, σ₂)) VR) :=
  fun v G' h' tk e hr => ⟨p, σ₂, G', h', tk, rfl, rfl, S₂.ext e, g.trans (S₂.grow e), hr⟩
theorem Rs.of_ns {α : Type} {o : Option α} {β : Type} {f : α → Rs β} (h : (Rs.of o).bind f ≠ .stuck) : ∃ a, o = some a ∧ (Rs.of o).bind f = f a := by
  cases o with
  | none => exact absurd rfl h
  | some a => exact ⟨a, rfl, rfl⟩
theorem exs_ok (H : SEx prog w C hB gA bA E n) (ha : Amb C A n F) (he : EnvOk gA bA env sc L) (pos : Pos) : ∀ (es : List Expr) {G : GM} {σ : Loc} {s : Shared}, St prog w hB F sc L R K G σ m s.heap → exs E sc es σ ≠ .stuck →
    wpAny (model prog w) A (spliced (backTo pos (starEach es env))) (PE prog w hB F sc L R K G m s (exs E sc es σ) VRs) (PX C F K s (exs E sc es σ)) s
  | [], G, σ, s, S, _ => wpAny_items_nil (PE.here S .nil)
  | e :: r, G, σ, s, S, hns => by
    have hst : isStar e = false := by
      cases q : isStar e with
      | false => rfl
      | true => unfold exs at hns; rw [q] at hns; exact absurd rfl hns
    have hse : starEach (e :: r) env = (false, eval e env) :: starEach r env := by cases e <;> first | rfl | exact noTrue hst.symm
    have e0 : exs E sc (e :: r) σ = (E.ex sc e σ).bind fun p => (exs E sc r p.2).bind fun q => .ok (p.1 :: q.1, q.2) := by
      show (if isStar e then _ else _) = _
      rw [hst]; rfl
    rw [e0] at hns ⊢
    refine wpAny_items_cons ?_ hse
    refine runE (H e ha he S (bind_ns hns)) (fun p σ₁ v G₁ h₁ tk e1 S₁ g₁ hv => ?_) fun e s' x => x.cast0 fun q => by simp only [q, Rs.exc_bind]
    have e2 : ((E.ex sc e σ).bind fun p => (exs E sc r p.2).bind fun q => Rs.ok (p.1 :: q.1, q.2)) = (exs E sc r σ₁).bind fun q => Rs.ok (p :: q.1, q.2) := by rw [e1]; rfl
    rw [e2] at hns ⊢
    refine runE (exs_ok H ha he pos r (s := { s with heap := h₁, toks := tk }) S₁ (bind_ns hns)) (fun q σ₂ vs G₂ h₂ tk₂ e3 S₂ g₂ hvs => ?_) fun e s' x => x.cast (s₁ := s) fun q => by simp only [q, Rs.exc_bind]
    exact ⟨p :: q, σ₂, G₂, h₂, tk₂, by rw [e3]; rfl, rfl, S₂, g₁.trans g₂, .cons (hv.mono g₂.1) hvs⟩
theorem tuple_ok (H : SEx prog w C hB gA bA E n) (ha : Amb C A n F) (he : EnvOk gA bA env sc L) (S : St prog w hB F sc L R K G σ m s.heap) {es : List Expr} {k : Nat} {pos : Pos}
    {r : Rs (PV × Loc)} (hr : r = (exs E sc es σ).bind fun p => if p.1.length ≤ lim then .ok (.tuple p.1, p.2) else .stuck) (hns : r ≠ .stuck) :
    wpAny (model prog w) A (eval (.Tuple es k pos) env) (PE prog w hB F sc L R K G m s r VR) (PX C F K s r) s := by
  subst hr
  refine wpAny_Tuple (wpAny_mono (exs_ok H ha he pos es S (bind_ns hns)) (fun vs s' x => ?_) fun e s' x => x.cast0 fun q => by simp only [q, Rs.exc_bind])
  obtain ⟨q, σ₂, G₂, h₂, tk₂, e2, rfl, S₂, g₂, hvs⟩ := x
  rw [e2] at hns ⊢
  by_cases hl : q.length ≤ lim
  · refine ⟨by rw [hvs.length, ← lim_eq]; exact hl, ?_⟩
    refine ⟨.tuple q, σ₂, _, _, tk₂, by simp only [Rs.bind, hl, if_true], rfl, S₂.ext (Ext.alloc S₂.gin _), g₂.trans (S₂.grow (Ext.alloc S₂.gin _)), ?_⟩
    exact .tuple (upd_self ..) rfl rfl (hvs.mono (upd_sub S₂.gin.fresh))
  · simp only [Rs.bind, hl, if_false] at hns; exact absurd rfl hns
theorem list_ok (H : SEx prog w C hB gA bA E n) (ha : Amb C A n F) (he : EnvOk gA bA env sc L) (S : St prog w hB F sc L R K G σ m s.heap) {es : List Expr} {pos : Pos}
    {r : Rs (PV × Loc)} (hr : r = (exs E sc es σ).bind fun p => if p.1.length ≤ lim then .ok (.list p.1, p.2) else .stuck) (hns : r ≠ .stuck) :
    wpAny (model prog w) A (eval (.List es pos) env) (PE prog w hB F sc L R K G m s r VR) (PX C F K s r) s := by
  subst hr
  refine wpAny_List (wpAny_mono (exs_ok H ha he pos es S (bind_ns hns)) (fun vs s' x => ?_) fun e s' x => x.cast0 fun q => by simp only [q, Rs.exc_bind])
  obtain ⟨q, σ₂, G₂, h₂, tk₂, e2, rfl, S₂, g₂, hvs⟩ := x
  rw [e2] at hns ⊢
  by_cases hl : q.length ≤ lim
  · refine ⟨by rw [hvs.length, ← lim_eq]; exact hl, ?_⟩
    refine ⟨.list q, σ₂, _, _, tk₂, by simp only [Rs.bind, hl, if_true], rfl, S₂.ext (Ext.alloc S₂.gin _), g₂.trans (S₂.grow (Ext.alloc S₂.gin _)), ?_⟩
    exact .list (upd_self ..) rfl rfl rfl (hvs.mono (upd_sub S₂.gin.fresh))
  · simp only [Rs.bind, hl, if_false] at hns; exact absurd rfl hns
theorem binop_step (H : SEx prog w C hB gA bA E n) (ha : Amb C A n F) (he : EnvOk gA bA env sc L) (S : St prog w hB F sc L R K G σ m s.heap) {l r : Expr} {op : Operator} {pos : Pos} {x : Rs (PV × Loc)}
    (hx : x = (E.ex sc l σ).bind fun p => (E.ex sc r p.2).bind fun q => (Rs.of (binop op p.1 q.1)).bind fun v => .ok (v, q.2)) (hns : x ≠ .stuck) :
    wpAny (model prog w) A (eval (.BinOp l op r pos) env) (PE prog w hB F sc L R K G m s x VR) (PX C F K s x) s := by
  subst hx
  refine wpAny_BinOp (runE (H l ha he S (bind_ns hns)) (fun p σ₁ v G₁ h₁ tk e1 S₁ g₁ hv => ?_) fun e s' x => x.cast0 fun q => by simp only [q, Rs.exc_bind])
  simp only [e1, Rs.ok_bind] at hns ⊢
  refine runE (H r ha he (s := { s with heap := h₁, toks := tk }) S₁ (bind_ns hns)) (fun q σ₂ u G₂ h₂ tk₂ e2 S₂ g₂ hu => ?_) fun e s' x => x.cast (s₁ := s) fun q => by simp only [q, Rs.exc_bind]
  simp only [e2, Rs.ok_bind] at hns ⊢
  obtain ⟨z, hz, e3⟩ := Rs.of_ns hns
  simp only [e3]
  exact binop_ok (s := { s with heap := h₂, toks := tk₂ }) S₂.gin (hv.mono g₂.1) hu hz (PE.op2 S₂ (g₁.trans g₂))
end
end Mine
set_option maxRecDepth 100000
set_option linter.unusedVariables false
set_option linter.unusedSimpArgs false
namespace Mine
open PySem PyProof.Rows PySem.W
section
variable {prog : Program} {w : World} {C : Ctx} {hB : Heap} {gA bA : Addr} {mg mb : Str → Option Value} {E : Ev} {n : Nat}
variable {A : Around} {F : List Env} {sc : Scope} {L : Addr} {env : Env} {R K G : GM} {σ : Loc} {m : Str → Option Value} {s : Shared}
theorem Amb.units' (ha : Amb C A n F) : A.units + 16 < cLine := by have := ha.units; (exact (linS [_, _, _] [.s 1 (.a (.a (.v 0) (.m 4 (.v 1))) (.n 40)) (.v 2)] 1 (.a (.v 0) (.n 16)) (.v 2) rfl this))
theorem in_name_ok (B : BaseOk C hB gA bA mg mb) (ha : Amb C A n F) (he : EnvOk gA bA env sc L) (S : St prog w hB F sc L R K G σ m s.heap) {a : PV} {va : Value} (hva : Rep G va a) {y : Str} {p : Pos} {sl : Slot} {b : Bool} (hy : σ.get y = some sl) (hb : inOwn a sl = some b)
    {Q : Value → Shared → Prop} {X : Value → Shared → Prop} (h : ∀ tk, Q (.bool b) { s with toks := tk }) :
    wpAny (model prog w) A (eval (.Name y p) env) (fun rv s₁ => wpAny (model prog w) A (compareOp .In va rv) Q X s₁) X s := by
  have hd : (σ.get y).isSome = true := by rw [hy]; rfl
  have hl := S.loc y sl hy
  cases sl with
  | unb => cases hb
  | own xs =>
    obtain ⟨c, o, vs, k, h1, h2, h3, h4, h5, h6, h7⟩ := hl
    exact load_local he S hd h1 (in_list_ok S.gin ha.units' hva ⟨o, h2, h3, k, h5⟩ h6 hb (h s.toks))
  | dict ks =>
    obtain ⟨c, h1, h2, h3⟩ := hl
    refine load_local he S hd h1 ?_
    have hc : (c == sysModules) = false := by
      refine beq_eq_false_iff_ne.mpr fun q => ?_
      obtain ⟨o, ho⟩ := B.sm
      rw [q, S.base _ _ ho] at h3; cases h3
    cases a with
    | bytes b' =>
      obtain ⟨_, rfl⟩ := hva.inv_bytes
      cases (Option.some.inj (show some (ks.contains b') = some b from hb))
      exact h2.in hc (h _)
    | _ => exact noSome hb
  | val v =>
    obtain ⟨u, h1, h2⟩ := hl
    refine load_local he S hd h1 ?_
    cases v <;> first | exact noSome hb | exact cmpop_ok S.gin ha.units' hva h2 hb (h s.toks)
theorem inName_some {op : CmpOp} {r : Expr} {y : Str} (h : inName [op] [r] = some y) : op = .In ∧ ∃ p, r = .Name y p := by
  cases op with
  | In =>
    cases r with
    | Name z p =>
      have h : some z = some y := h
      injection h with h
      subst h
      exact ⟨rfl, p, rfl⟩
    | _ => exact noSome h
  | _ => exact noSome h
theorem cmp_single (B : BaseOk C hB gA bA mg mb) (H : SEx prog w C hB gA bA E n) (ha : Amb C A n F) (he : EnvOk gA bA env sc L) (S : St prog w hB F sc L R K G σ m s.heap) {a : PV} {va : Value} (hva : Rep G va a) {op : CmpOp} {r : Expr}
    (hns : cmpE E sc a [op] [r] σ ≠ .stuck) {Q : Value → Shared → Prop} {X : Value → Shared → Prop}
    (hQ : ∀ b s', PE prog w hB F sc L R K G m s (cmpE E sc a [op] [r] σ) VB b s' → Q (.bool b) s') (hX : ∀ e s', PX C F K s (cmpE E sc a [op] [r] σ) e s' → X e s') :
    wpAny (model prog w) A (eval r env) (fun rv s₁ => wpAny (model prog w) A (compareOp op va rv) Q X s₁) X s := by
  obtain ⟨y, hy⟩ : ∃ y, y = cmpE E sc a [op] [r] σ := ⟨_, rfl⟩
  rw [← hy] at hns hQ hX
  replace hy : y = (match inName [op] [r] with
    | some y => (match σ.get y with
      | some sl => (Rs.of (inOwn a sl)).bind fun b => .ok (b, σ)
      | none => .stuck)
    | none => if isSetE r then .stuck else (E.ex sc r σ).bind fun p => (Rs.of (cmpop op a p.1)).bind fun c => .ok (c, p.2)) := hy
  cases hi : inName [op] [r] with
  | some z =>
    rw [hi] at hy
    obtain ⟨rfl, p, rfl⟩ := inName_some hi
    dsimp only at hy
    cases hz : σ.get z with
    | none => rw [hz] at hy; exact absurd hy hns
    | some sl =>
      rw [hz] at hy
      obtain ⟨b, hb, e⟩ := bnF hy hns
      exact in_name_ok B ha he S hva hz hb fun tk => hQ b _ ⟨b, σ, G, s.heap, tk, e, rfl, S, Gr.refl .., rfl⟩
  | none =>
    rw [hi] at hy
    by_cases hse : isSetE r = true
    · exact absurd (hy.trans (if_pos hse)) hns
    replace hy := hy.trans (if_neg hse)
    refine runE (H r ha he S (bnN hy hns)) (fun q σ₂ u G₂ h₂ tk₂ e2 S₂ g₂ hu => ?_) fun e s' x => hX e s' (x.cast0 (bnE hy))
    replace hy := bnO hy e2
    obtain ⟨b, hb, e⟩ := bnF hy hns
    exact cmpop_ok (s := { s with heap := h₂, toks := tk₂ }) S₂.gin ha.units' (hva.mono g₂.1) hu hb (hQ b _ (PE.finR e S₂ g₂ rfl))
theorem notSet_marks {op : CmpOp} {r : Expr} (h : isSetE r = false) : behindInMarks op r = false := by
  cases r <;> first | rfl | exact noTrue h.symm
theorem cmp_notSet {a : PV} {op : CmpOp} {r : Expr} (hns : cmpE E sc a [op] [r] σ ≠ .stuck) : isSetE r = false := by
  replace hns : (match inName [op] [r] with
    | some y => (match σ.get y with
      | some sl => (Rs.of (inOwn a sl)).bind fun b => .ok (b, σ)
      | none => .stuck)
    | none => if isSetE r then Rs.stuck else (E.ex sc r σ).bind fun p => (Rs.of (cmpop op a p.1)).bind fun c => .ok (c, p.2)) ≠ .stuck := hns
  cases hi : inName [op] [r] with
  | some y => obtain ⟨rfl, p, rfl⟩ := inName_some hi; rfl
  | none =>
    rw [hi] at hns
    cases hse : isSetE r with
    | false => rfl
    | true => rw [hse] at hns; exact absurd rfl hns
theorem cmp_more (B : BaseOk C hB gA bA mg mb) (H : SEx prog w C hB gA bA E n) (ha : Amb C A n F) (he : EnvOk gA bA env sc L) (S : St prog w hB F sc L R K G σ m s.heap) {a : PV} {va : Value} (hva : Rep G va a) {op : CmpOp} {r : Expr} {ops : List CmpOp} {rs : List Expr} {x : Rs (Bool × Loc)}
    (hx : x = (E.ex sc r σ).bind fun p => (Rs.of (cmpop op a p.1)).bind fun c => if c then cmpE E sc p.1 ops rs p.2 else .ok (false, p.2))
    (hns : x ≠ .stuck) {Q : Value → Value → Shared → Prop} {X : Value → Shared → Prop}
    (hT : ∀ q σ₂ u G₂ h₂ tk₂, x = cmpE E sc q ops rs σ₂ → St prog w hB F sc L R K G₂ σ₂ m h₂ → Gr R G G₂ → Rep G₂ u q → Q u (.bool true) { s with heap := h₂, toks := tk₂ })
    (hF : ∀ σ₂ u G₂ h₂ tk₂, x = .ok (false, σ₂) → St prog w hB F sc L R K G₂ σ₂ m h₂ → Gr R G G₂ → Q u (.bool false) { s with heap := h₂, toks := tk₂ })
    (hX : ∀ e s', PX C F K s x e s' → X e s') :
    wpAny (model prog w) A (eval r env) (fun rv s₁ => wpAny (model prog w) A (compareOp op va rv) (Q rv) X s₁) X s := by
  refine runE (H r ha he S (bnN hx hns)) (fun q σ₂ u G₂ h₂ tk₂ e2 S₂ g₂ hu => ?_) fun e s' y => hX e s' (y.cast0 (bnE hx))
  replace hx := bnO hx e2
  obtain ⟨b, hb, e⟩ := bnF hx hns
  refine cmpop_ok (s := { s with heap := h₂, toks := tk₂ }) S₂.gin ha.units' (hva.mono g₂.1) hu hb ?_
  cases b with
  | true => exact hT q σ₂ u G₂ h₂ tk₂ e S₂ g₂ hu
  | false => exact hF σ₂ u G₂ h₂ tk₂ e S₂ g₂
theorem cmpE_more (a : PV) (op : CmpOp) (r : Expr) (ops : List CmpOp) (rs : List Expr) (σ : Loc) (h : ops ≠ [] ∨ rs ≠ []) :
    cmpE E sc a (op :: ops) (r :: rs) σ = (E.ex sc r σ).bind fun p => (Rs.of (cmpop op a p.1)).bind fun c => if c then cmpE E sc p.1 ops rs p.2 else .ok (false, p.2) := by
  cases ops with
  | cons _ _ => rfl
  | nil => cases rs with
    | cons _ _ => rfl
    | nil => simp at h
theorem markedEach_more (op : CmpOp) (r : Expr) (t : Sem Value) (ops : List CmpOp) (rs : List Expr) (ts : List (Sem Value)) (h : ops ≠ [] ∨ rs ≠ []) : markedEach (op :: ops) (r :: rs) (t :: ts) = t :: markedEach ops rs ts := by
  cases ops with
  | cons _ _ => rfl
  | nil => cases rs with
    | cons _ _ => rfl
    | nil => simp at h
theorem markedEach_nil (ops : List CmpOp) (ts : List (Sem Value)) : markedEach ops [] ts = ts := by
  cases ops with
  | nil => rfl
  | cons o ops => cases ops <;> rfl
theorem chain_more (pos : Pos) (left : Value) (op : CmpOp) (r : Sem Value) (ops : List CmpOp) (rs : List (Sem Value)) (h : ops ≠ [] ∨ rs ≠ []) : compareChain pos left (op :: ops) (r :: rs) = (do
    let rv ← holding [left] r
    standAt pos
    let c ← holding [left, rv] (compareOp op left rv)
    release [left, rv] [c]
    if ← holding [c, rv] (truthy c) then compareChain pos rv ops rs else pure c) := by
  cases ops with
  | cons _ _ => rfl
  | nil => cases rs with
    | cons _ _ => rfl
    | nil => simp at h
theorem test_more (pos : Pos) (left : Value) (op : CmpOp) (r : Sem Value) (ops : List CmpOp) (rs : List (Sem Value)) (h : ops ≠ [] ∨ rs ≠ []) : testChain pos left (op :: ops) (r :: rs) = (do
    let rv ← holding [left] r
    standAt pos
    let c ← holding [left, rv] (compareOp op left rv)
    release [left, rv] [c]
    if ← holding [c, rv] (truthy c) then testChain pos rv ops rs else pure false) := by
  cases ops with
  | cons _ _ => rfl
  | nil => cases rs with
    | cons _ _ => rfl
    | nil => simp at h
noncomputable def VBv : GM → Value → Bool → Prop := fun _ v p => v = .bool p
theorem evalEach_ne {rs : List Expr} (h : rs ≠ []) : evalEach rs env ≠ [] := by
  cases rs with
  | nil => exact absurd rfl h
  | cons a b => exact fun q => by cases q
theorem marked_ne {ops : List CmpOp} {rs : List Expr} {ts : List (Sem Value)} (h : ts ≠ []) : markedEach ops rs ts ≠ [] := by
  cases ts with
  | nil => exact absurd rfl h
  | cons t ts => cases ops with
    | nil => cases rs <;> exact h
    | cons o ops => cases rs with
      | nil => rw [markedEach_nil]; exact h
      | cons r rs => cases ops with
        | cons _ _ => exact fun q => by cases q
        | nil => cases rs with
          | cons _ _ => exact fun q => by cases q
          | nil => cases ts <;> exact fun q => by cases q
theorem chain_ok (B : BaseOk C hB gA bA mg mb) (H : SEx prog w C hB gA bA E n) (ha : Amb C A n F) (he : EnvOk gA bA env sc L) (pos : Pos) : ∀ (ops : List CmpOp) (rs : List Expr) {a : PV} {va : Value} {G : GM} {σ : Loc} {s : Shared},
    St prog w hB F sc L R K G σ m s.heap → Rep G va a → cmpE E sc a ops rs σ ≠ .stuck →
    wpAny (model prog w) A (compareChain pos va ops (markedEach ops rs (evalEach rs env))) (PE prog w hB F sc L R K G m s (cmpE E sc a ops rs σ) VBv) (PX C F K s (cmpE E sc a ops rs σ)) s := by
  intro ops
  induction ops with
  | nil => intro rs a va G σ s S hva hns; cases rs <;> exact absurd rfl hns
  | cons op ops ih =>
    intro rs a va G σ s S hva hns
    cases rs with
    | nil => cases ops <;> exact absurd rfl hns
    | cons r rs =>
      by_cases hm : ops ≠ [] ∨ rs ≠ []
      · have e1 := cmpE_more (E := E) (sc := sc) a op r ops rs σ hm
        rw [show evalEach (r :: rs) env = eval r env :: evalEach rs env from rfl, markedEach_more op r _ ops rs _ hm, chain_more pos va op _ ops _ (hm.imp id fun q => marked_ne (evalEach_ne q))]
        obtain ⟨y, hy⟩ : ∃ y, y = cmpE E sc a (op :: ops) (r :: rs) σ := ⟨_, rfl⟩
        rw [← hy] at hns ⊢
        refine wpAny_bind (wpAny_holding (wpAny_mono (cmp_more B H ha he S hva (hy.trans e1) hns
          (Q := fun rv c s' => wpAny (model prog w) A (release [va, rv] [c] >>= fun _ => holding [c, rv] (truthy c) >>= fun b => if b = true then compareChain pos rv ops (markedEach ops rs (evalEach rs env)) else pure c)
            (PE prog w hB F sc L R K G m s y VBv) (PX C F K s y) s')
          (X := PX C F K s y) ?_ ?_ fun _ _ x => x)
          (fun rv s₁ h₁ => wpAny_bind (wpAny_standAt (wpAny_bind (wpAny_holding h₁)))) fun _ _ x => x))
        · intro q σ₂ u G₂ h₂ tk₂ ex S₂ g₂ hu
          refine wpAny_bind (wpAny_release (wpAny_bind (wpAny_holding (wpAny_truthy_bool ?_))))
          rw [if_pos rfl]
          exact wpAny_mono (ih rs (s := { s with heap := h₂, toks := tk₂ }) S₂ hu (ex ▸ hns)) (fun v s' x => x.cast g₂ ex.symm) fun e s' x => x.cast (s₁ := s) ex.trans
        · intro σ₂ u G₂ h₂ tk₂ ex S₂ g₂
          refine wpAny_bind (wpAny_release (wpAny_bind (wpAny_holding (wpAny_truthy_bool ?_))))
          rw [if_neg Bool.false_ne_true]
          exact wpAny_pure (PE.finR ex S₂ g₂ rfl)
      · have hm1 : ops = [] := Classical.byContradiction fun q => hm (.inl q)
        have hm2 : rs = [] := Classical.byContradiction fun q => hm (.inr q)
        subst hm1 hm2
        have hb := notSet_marks (op := op) (cmp_notSet hns)
        show wpAny _ A (do let rv ← holding [va] (markedBehindIn op r (eval r env)); standAt pos; operate [va, rv] (compareOp op va rv)) _ _ _
        rw [markedBehindIn_of_false hb]
        refine wpAny_bind (wpAny_holding (wpAny_mono (cmp_single B H ha he S hva hns (Q := PE prog w hB F sc L R K G m s (cmpE E sc a [op] [r] σ) VBv) (fun b s' x => ?_) fun _ _ x => x) (fun rv s₁ h₁ => wpAny_bind (wpAny_standAt (wpAny_operating h₁))) fun _ _ x => x))
        obtain ⟨p, σ', G', h', tk, x1, x2, x3, x4, rfl⟩ := x
        exact ⟨_, σ', G', h', tk, x1, x2, x3, x4, rfl⟩
theorem test_ok (B : BaseOk C hB gA bA mg mb) (H : SEx prog w C hB gA bA E n) (ha : Amb C A n F) (he : EnvOk gA bA env sc L) (pos : Pos) : ∀ (ops : List CmpOp) (rs : List Expr) {a : PV} {va : Value} {G : GM} {σ : Loc} {s : Shared},
    St prog w hB F sc L R K G σ m s.heap → Rep G va a → cmpE E sc a ops rs σ ≠ .stuck →
    wpAny (model prog w) A (testChain pos va ops (markedEach ops rs (evalEach rs env))) (PE prog w hB F sc L R K G m s (cmpE E sc a ops rs σ) VB) (PX C F K s (cmpE E sc a ops rs σ)) s := by
  intro ops
  induction ops with
  | nil => intro rs a va G σ s S hva hns; cases rs <;> exact absurd rfl hns
  | cons op ops ih =>
    intro rs a va G σ s S hva hns
    cases rs with
    | nil => cases ops <;> exact absurd rfl hns
    | cons r rs =>
      by_cases hm : ops ≠ [] ∨ rs ≠ []
      · have e1 := cmpE_more (E := E) (sc := sc) a op r ops rs σ hm
        rw [show evalEach (r :: rs) env = eval r env :: evalEach rs env from rfl, markedEach_more op r _ ops rs _ hm, test_more pos va op _ ops _ (hm.imp id fun q => marked_ne (evalEach_ne q))]
        obtain ⟨y, hy⟩ : ∃ y, y = cmpE E sc a (op :: ops) (r :: rs) σ := ⟨_, rfl⟩
        rw [← hy] at hns ⊢
        refine wpAny_bind (wpAny_holding (wpAny_mono (cmp_more B H ha he S hva (hy.trans e1) hns
          (Q := fun rv c s' => wpAny (model prog w) A (release [va, rv] [c] >>= fun _ => holding [c, rv] (truthy c) >>= fun b => if b = true then testChain pos rv ops (markedEach ops rs (evalEach rs env)) else pure false)
            (PE prog w hB F sc L R K G m s y VB) (PX C F K s y) s')
          (X := PX C F K s y) ?_ ?_ fun _ _ x => x)
          (fun rv s₁ h₁ => wpAny_bind (wpAny_standAt (wpAny_bind (wpAny_holding h₁)))) fun _ _ x => x))
        · intro q σ₂ u G₂ h₂ tk₂ ex S₂ g₂ hu
          refine wpAny_bind (wpAny_release (wpAny_bind (wpAny_holding (wpAny_truthy_bool ?_))))
          rw [if_pos rfl]
          exact wpAny_mono (ih rs (s := { s with heap := h₂, toks := tk₂ }) S₂ hu (ex ▸ hns)) (fun v s' x => x.cast g₂ ex.symm) fun e s' x => x.cast (s₁ := s) ex.trans
        · intro σ₂ u G₂ h₂ tk₂ ex S₂ g₂
          refine wpAny_bind (wpAny_release (wpAny_bind (wpAny_holding (wpAny_truthy_bool ?_))))
          rw [if_neg Bool.false_ne_true]
          exact wpAny_pure (PE.finR ex S₂ g₂ rfl)
      · have hm1 : ops = [] := Classical.byContradiction fun q => hm (.inl q)
        have hm2 : rs = [] := Classical.byContradiction fun q => hm (.inr q)
        subst hm1 hm2
        have hb := notSet_marks (op := op) (cmp_notSet hns)
        show wpAny _ A (do let rv ← holding [va] (markedBehindIn op r (eval r env)); standAt pos; let c ← operate [va, rv] (compareOp op va rv); holding [c] (truthy c)) _ _ _
        rw [markedBehindIn_of_false hb]
        refine wpAny_bind (wpAny_holding (wpAny_mono (cmp_single B H ha he S hva hns (Q := fun c s' => wpAny (model prog w) A (holding [c] (truthy c)) (PE prog w hB F sc L R K G m s (cmpE E sc a [op] [r] σ) VB) (PX C F K s (cmpE E sc a [op] [r] σ)) s') (fun b s' x => ?_) fun _ _ x => x) (fun rv s₁ h₁ => wpAny_bind (wpAny_standAt (wpAny_bind (wpAny_operating h₁)))) fun _ _ x => x))
        exact wpAny_holding (wpAny_truthy_bool x)
theorem compare_step (B : BaseOk C hB gA bA mg mb) (H : SEx prog w C hB gA bA E n) (ha : Amb C A n F) (he : EnvOk gA bA env sc L) (S : St prog w hB F sc L R K G σ m s.heap) {l : Expr} {ops : List CmpOp} {rs : List Expr} {pos : Pos} {x : Rs (PV × Loc)}
    (hx : x = (E.ex sc l σ).bind fun p => (cmpE E sc p.1 ops rs p.2).bind fun q => .ok (.bool q.1, q.2)) (hns : x ≠ .stuck) :
    wpAny (model prog w) A (eval (.Compare l ops rs pos) env) (PE prog w hB F sc L R K G m s x VR) (PX C F K s x) s := by
  show wpAny _ A (do compareChain pos (← eval l env) ops (markedEach ops rs (evalEach rs env))) _ _ _
  refine wpAny_bind (runE (H l ha he S (bnN hx hns)) (fun p σ₁ v G₁ h₁ tk e1 S₁ g₁ hv => ?_) fun e s' x => x.cast0 (bnE hx))
  replace hx := bnO hx e1
  refine runE (chain_ok B H ha he pos ops rs (s := { s with heap := h₁, toks := tk }) S₁ hv (bnN hx hns)) (fun q σ₂ u G₂ h₂ tk₂ e2 S₂ g₂ hu => ?_) fun e s' x => x.cast (s₁ := s) (bnE hx)
  replace hx := bnO hx e2
  cases hu
  exact PE.finR hx S₂ (g₁.trans g₂) (.bool _)
theorem compare_test (B : BaseOk C hB gA bA mg mb) (H : SEx prog w C hB gA bA E n) (ha : Amb C A n F) (he : EnvOk gA bA env sc L) (S : St prog w hB F sc L R K G σ m s.heap) {l : Expr} {ops : List CmpOp} {rs : List Expr} {pos : Pos} {whole : Sem Value} {x : Rs (Bool × Loc)}
    (hx : x = (E.ex sc l σ).bind fun p => cmpE E sc p.1 ops rs p.2) (hns : x ≠ .stuck) :
    wpAny (model prog w) A (isTrue (.Compare l ops rs pos) env whole) (PE prog w hB F sc L R K G m s x VB) (PX C F K s x) s := by
  show wpAny _ A (do testChain pos (← eval l env) ops (markedEach ops rs (evalEach rs env))) _ _ _
  refine wpAny_bind (runE (H l ha he S (bnN hx hns)) (fun p σ₁ v G₁ h₁ tk e1 S₁ g₁ hv => ?_) fun e s' x => x.cast0 (bnE hx))
  replace hx := bnO hx e1
  have hx1 : x = cmpE E sc p ops rs σ₁ := hx
  exact wpAny_mono (test_ok B H ha he pos ops rs (s := { s with heap := h₁, toks := tk }) S₁ hv (hx1 ▸ hns)) (fun v s' x => x.cast g₁ hx1.symm) fun e s' x => x.cast (s₁ := s) hx1.trans
theorem bool_ok (T : STr prog w C hB gA bA E n) (ha : Amb C A n F) (he : EnvOk gA bA env sc L) (op : BoolOp) : ∀ (es : List Expr) {G : GM} {σ : Loc} {s : Shared},
    St prog w hB F sc L R K G σ m s.heap → boolE E sc op es σ ≠ .stuck →
    wpAny (model prog w) A (allTrue op es env) (PE prog w hB F sc L R K G m s (boolE E sc op es σ) VB) (PX C F K s (boolE E sc op es σ)) s
  | [], G, σ, s, S, _ => wpAny_pure (PE.here S rfl)
  | e :: r, G, σ, s, S, hns => by
    show wpAny _ A (do
      match op, ← isTrue e env (eval e env) with
      | .And, false => pure false
      | .Or, true => pure true
      | _, _ => allTrue op r env) _ _ _
    have e0 : boolE E sc op (e :: r) σ = (E.tr sc e σ).bind fun p => match op, p.1 with
      | .And, false => .ok (false, p.2)
      | .Or, true => .ok (true, p.2)
      | _, _ => boolE E sc op r p.2 := rfl
    rw [e0] at hns ⊢
    refine wpAny_bind (runE (T e ha he S (bind_ns hns)) (fun p σ₁ v G₁ h₁ tk e1 S₁ g₁ hv => ?_) fun e s' x => x.cast0 fun q => by simp only [q, Rs.exc_bind])
    simp only [e1, Rs.ok_bind] at hns ⊢
    have hv' : v = p := hv
    subst hv'
    have rec_ : boolE E sc op r σ₁ ≠ .stuck → wpAny (model prog w) A (allTrue op r env) (PE prog w hB F sc L R K G m s (boolE E sc op r σ₁) VB) (PX C F K s (boolE E sc op r σ₁)) { s with heap := h₁, toks := tk } := fun hn =>
      wpAny_mono (bool_ok T ha he op r (s := { s with heap := h₁, toks := tk }) S₁ hn) (fun v s' x => x.cast g₁ rfl) fun e s' x => x.cast (s₁ := s) fun q => q
    cases op <;> cases v
    · exact wpAny_pure (PE.fin S₁ g₁ rfl)
    · exact rec_ hns
    · exact rec_ hns
    · exact wpAny_pure (PE.fin S₁ g₁ rfl)
theorem truthP_ok {p : PV} {v : Value} {b : Bool} {Q : Bool → Shared → Prop} {X : Value → Shared → Prop} (hr : Rep G v p) (h : truthP p = some b) (hQ : Q b s) : wpAny (model prog w) A (truthy v) Q X s := by
  cases p with
  | bool c => cases hr.inv_bool; cases (Option.some.inj (show some c = some b from h)); exact wpAny_truthy_bool hQ
  | int i => obtain ⟨_, rfl⟩ := hr.inv_int; cases (Option.some.inj (show some (i != 0) = some b from h)); exact truthy_int hQ
  | _ => exact noSome h
theorem tr_step (B : BaseOk C hB gA bA mg mb) (H : SEx prog w C hB gA bA E n) (T : STr prog w C hB gA bA E n) : STr prog w C hB gA bA { E with tr := stepTr E } n := by
  intro A F sc L env R K G σ m s e ha he S hns
  have other : stepTr E sc e σ = ((E.ex sc e σ).bind fun p => (Rs.of (truthP p.1)).bind fun b => .ok (b, p.2)) → isTrue e env (eval e env) = (do let v ← eval e env; standAt e.pos; holding [v] (truthy v)) →
      wpAny (model prog w) A (isTrue e env (eval e env)) (PE prog w hB F sc L R K G m s (stepTr E sc e σ) VB) (PX C F K s (stepTr E sc e σ)) s := by
    intro e0 e1
    change stepTr E sc e σ ≠ .stuck at hns
    refine wpAny_isTrue_value (runE (H e ha he S (bnN e0 hns)) (fun p σ₁ v G₁ h₁ tk e1 S₁ g₁ hv => ?_) fun e s' x => x.cast0 (bnE e0)) e1
    have e3 := bnO e0 e1
    obtain ⟨b, hb, e2⟩ := bnF e3 hns
    exact truthP_ok (s := { s with heap := h₁, toks := tk }) hv hb (PE.finR e2 S₁ g₁ rfl)
  cases e with
  | UnaryOp op x pos =>
    cases op with
    | Not =>
      change ((E.tr sc x σ).bind fun p => Rs.ok (!p.1, p.2)) ≠ .stuck at hns
      show wpAny _ A (do return !(← isTrue x env (eval x env))) (PE prog w hB F sc L R K G m s ((E.tr sc x σ).bind fun p => Rs.ok (!p.1, p.2)) VB) (PX C F K s ((E.tr sc x σ).bind fun p => Rs.ok (!p.1, p.2))) s
      refine wpAny_bind (runE (T x ha he S (bind_ns hns)) (fun p σ₁ v G₁ h₁ tk e1 S₁ g₁ hv => ?_) fun e s' x => x.cast0 fun q => by simp only [q, Rs.exc_bind])
      simp only [e1, Rs.ok_bind] at hns ⊢
      have hv' : v = p := hv
      subst hv'
      exact wpAny_pure (PE.fin S₁ g₁ rfl)
    | _ => exact absurd rfl hns
  | BoolOp op vs pos => exact wpAny_isTrue_BoolOp (bool_ok T ha he op vs S hns)
  | Compare l ops cs pos => exact compare_test B H ha he S rfl hns
  | IfExp => exact absurd rfl hns
  | _ => exact other rfl rfl
end
end Mine
set_option maxRecDepth 100000
set_option linter.unusedVariables false
set_option linter.unusedSimpArgs false
namespace Mine
open PySem PyProof.Rows PySem.W
section
variable {prog : Program} {w : World} {C : Ctx} {hB : Heap} {gA bA : Addr} {mg mb : Str → Option Value} {E : Ev} {n : Nat}
variable {A : Around} {F : List Env} {sc : Scope} {L : Addr} {env : Env} {R K G : GM} {σ : Loc} {m : Str → Option Value} {s : Shared}
noncomputable def VP : GM → Value → Option PV → Prop := fun G v p => PartRep G v p
theorem PartRep.mono {G G' : GM} (g : GSub G G') {v : Value} {p : Option PV} (h : PartRep G v p) : PartRep G' v p := by
  cases h with
  | none => exact .none
  | some h => exact .some (h.mono g)
theorem part_ok (H : SEx prog w C hB gA bA E n) (ha : Amb C A n F) (he : EnvOk gA bA env sc L) (S : St prog w hB F sc L R K G σ m s.heap) (e : Option Expr) (hns : exo E sc e σ ≠ .stuck) :
    wpAny (model prog w) A (evalPart e env) (PE prog w hB F sc L R K G m s (exo E sc e σ) VP) (PX C F K s (exo E sc e σ)) s := by
  cases e with
  | none => exact wpAny_pure (PE.here S .none)
  | some e =>
    have hr : exo E sc (some e) σ = (E.ex sc e σ).bind fun p => Rs.ok (some p.1, p.2) := rfl
    refine runE (H e ha he S (bnN hr hns)) (fun p σ₁ v G₁ h₁ tk e1 S₁ g₁ hv => ?_) fun e s' x => x.cast0 (bnE hr)
    have hr1 := bnO hr e1
    exact PE.finR hr1 S₁ g₁ (.some hv)
theorem slice_plain (H : SEx prog w C hB gA bA E n) (ha : Amb C A n F) (he : EnvOk gA bA env sc L) (S : St prog w hB F sc L R K G σ m s.heap) {value : Expr} {o : PV} {vo : Value} (ho : Rep G vo o) {l u : Option Expr} {p : Pos} {x : Rs (PV × Loc)}
    (hx : x = (exo E sc l σ).bind fun p => (exo E sc u p.2).bind fun q => (Rs.of (sliceP o p.1 q.1)).bind fun r => .ok (r, q.2)) (hns : x ≠ .stuck) :
    wpAny (model prog w) A (eval (.Slice l u none p) env) (fun i s₂ => wpAny (model prog w) A (subscriptTail value (.Slice l u none p) vo i) (PE prog w hB F sc L R K G m s x VR) (PX C F K s x) s₂) (PX C F K s x) s := by
  refine wpAny_Slice ?_
  refine runE (part_ok H ha he S l (bnN hx hns)) (fun p σ₁ v G₁ h₁ tk e1 S₁ g₁ hv => ?_) fun e s' x => x.cast0 (bnE hx)
  replace hx := bnO hx e1
  refine runE (part_ok H ha he (s := { s with heap := h₁, toks := tk }) S₁ u (bnN hx hns)) (fun q σ₂ v₂ G₂ h₂ tk₂ e2 S₂ g₂ hv₂ => ?_) fun e s' x => x.cast (s₁ := s) (bnE hx)
  replace hx := bnO hx e2
  obtain ⟨z, hz, e3⟩ := bnF hx hns
  refine wpAny_pure ?_
  exact sliceTail_ok (s := { s with heap := h₂, toks := tk₂ }) S₂.gin (ho.mono (g₁.trans g₂).1) (PartRep.mono g₂.1 hv) hv₂ hz (PE.opR e3 S₂ (g₁.trans g₂))
theorem slice_rev (S : St prog w hB F sc L R K G σ m s.heap) {value : Expr} {o : PV} {vo : Value} (ho : Rep G vo o) {k : Nat} {p p' p'' : Pos} {x : Rs (PV × Loc)}
    (hx : x = (Rs.of (revP o)).bind fun r => .ok (r, σ)) (hns : x ≠ .stuck) :
    wpAny (model prog w) A (eval (.Slice none none (some (.UnaryOp .USub (.Constant (.int 1) k p') p'')) p) env)
      (fun i s₂ => wpAny (model prog w) A (subscriptTail value (.Slice none none (some (.UnaryOp .USub (.Constant (.int 1) k p') p'')) p) vo i) (PE prog w hB F sc L R K G m s x VR) (PX C F K s x) s₂) (PX C F K s x) s := by
  obtain ⟨z, hz, e3⟩ := bnF hx hns
  refine wpAny_Slice (wpAny_pure (wpAny_pure ?_))
  show wpAny _ A (do let v ← eval (.Constant (.int 1) k p') env; standAt p''; holding [v] (unaryOp .USub v)) _ _ _
  refine wpAny_bind (wpAny_Constant_int (wpAny_bind (wpAny_standAt (wpAny_holding ?_))))
  refine neg_int ?_
  exact revTail_ok (s := { s with toks := s.toks + 1 + 1 }) S.gin ho hz (PE.opR (s := s) e3 S (Gr.refl ..))
inductive SubForm : Expr → Prop
  | rev (k : Nat) (p p' p'' : Pos) : SubForm (.Slice none none (some (.UnaryOp .USub (.Constant (.int 1) k p') p'')) p)
  | plain (l u : Option Expr) (p : Pos) : SubForm (.Slice l u none p)
  | item (i : Expr) (h : isSlice i = false) : SubForm i
theorem sub_rev {o : PV} {p : Pos} {σ : Loc} {l u : Option Expr} {e : Expr} (h : subE E sc o (.Slice l u (some e) p) σ ≠ .stuck) : SubForm (.Slice l u (some e) p) := by
  rcases l with _ | l
  rotate_left
  · exact absurd rfl h
  rcases u with _ | u
  rotate_left
  · exact absurd rfl h
  cases e with
  | UnaryOp op a q =>
    cases op with
    | USub =>
      cases a with
      | Constant c k q' =>
        cases c with
        | int z =>
          cases z with
          | ofNat n =>
            rcases n with _ | _ | n
            · exact absurd rfl h
            · exact .rev ..
            · exact absurd rfl h
          | negSucc n => exact absurd rfl h
        | _ => exact absurd rfl h
      | _ => exact absurd rfl h
    | _ => exact absurd rfl h
  | _ => exact absurd rfl h
theorem sub_form {o : PV} {i : Expr} {σ : Loc} (h : subE E sc o i σ ≠ .stuck) : SubForm i := by
  cases i with
  | Slice l u st p =>
    rcases st with _ | e
    · exact .plain ..
    · exact sub_rev h
  | _ => exact .item _ rfl
theorem sub_item_eq {o : PV} {i : Expr} {σ : Loc} (h : isSlice i = false) : subE E sc o i σ = (E.ex sc i σ).bind fun p => (Rs.of (itemP o p.1)).bind fun r => .ok (r, p.2) := by
  cases i <;> first | rfl | exact noTrue h.symm
theorem sub_plain_eq {o : PV} {l u : Option Expr} {p : Pos} {σ : Loc} : subE E sc o (.Slice l u none p) σ = (exo E sc l σ).bind fun p => (exo E sc u p.2).bind fun q => (Rs.of (sliceP o p.1 q.1)).bind fun r => .ok (r, q.2) := by
  cases l <;> cases u <;> rfl
theorem sub_step (H : SEx prog w C hB gA bA E n) (ha : Amb C A n F) (he : EnvOk gA bA env sc L) (S : St prog w hB F sc L R K G σ m s.heap) {value i : Expr} {pos : Pos} {x : Rs (PV × Loc)}
    (hx : x = (E.ex sc value σ).bind fun p => subE E sc p.1 i p.2) (hns : x ≠ .stuck) :
    wpAny (model prog w) A (eval (.Subscript value i pos) env) (PE prog w hB F sc L R K G m s x VR) (PX C F K s x) s := by
  refine Subscript_ (runE (H value ha he S (bnN hx hns)) (fun p σ₁ v G₁ h₁ tk e1 S₁ g₁ hv => ?_) fun e s' x => x.cast0 (bnE hx))
  replace hx := bnO hx e1
  -- it is enough to end from here
  suffices h : wpAny (model prog w) A (eval i env) (fun iv s₂ => wpAny (model prog w) A (subscriptTail value i v iv) (PE prog w hB F sc L R K G₁ m { s with heap := h₁, toks := tk } x VR) (PX C F K { s with heap := h₁, toks := tk } x) s₂)
      (PX C F K { s with heap := h₁, toks := tk } x) { s with heap := h₁, toks := tk } from
    wpAny_mono h (fun iv s₂ h₂ => wpAny_mono h₂ (fun v s' x => x.cast g₁ rfl) fun e s' x => x.cast (s₁ := s) fun q => q) fun e s' x => x.cast (s₁ := s) fun q => q
  have hx : x = subE E sc p i σ₁ := hx
  cases sub_form (hx ▸ hns) with
  | rev k p p' p'' => exact slice_rev (s := { s with heap := h₁, toks := tk }) S₁ hv hx hns
  | plain l u p => exact slice_plain H ha he (s := { s with heap := h₁, toks := tk }) S₁ hv (hx.trans sub_plain_eq) hns
  | item i hsl =>
    replace hx := hx.trans (sub_item_eq hsl)
    refine runE (H i ha he (s := { s with heap := h₁, toks := tk }) S₁ (bnN hx hns)) (fun q σ₂ u G₂ h₂ tk₂ e2 S₂ g₂ hu => ?_) fun e s' x => x.cast0 (bnE hx)
    replace hx := bnO hx e2
    obtain ⟨z, hz, e3⟩ := bnF hx hns
    exact itemP_ok (s := { s with heap := h₂, toks := tk₂ }) S₂.gin (hv.mono g₂.1) hu hsl hz (PE.opR (s := { s with heap := h₁, toks := tk }) e3 S₂ g₂)
end
end Mine
set_option maxRecDepth 100000
set_option linter.unusedVariables false
set_option linter.unusedSimpArgs false
namespace Mine
open PySem PyProof.Rows PySem.W
section
variable {prog : Program} {w : World} {C : Ctx} {hB : Heap} {gA bA : Addr} {mg mb : Str → Option Value} {E : Ev} {n : Nat}
variable {A : Around} {F : List Env} {sc : Scope} {L : Addr} {env : Env} {R K G : GM} {σ : Loc} {m : Str → Option Value} {s : Shared}
theorem PX.rebase {α : Type} {r : Rs α} {e : Value} {s s' : Shared} (k : TrR (framesOf F) K s.heap) (x : PX C F s.heap.get? s r e s') : PX C F K s r e s' := by
  obtain ⟨h1, h2, x, h', tk, h3, h4, h5, h6, h7⟩ := x
  exact ⟨h1, h2, x, h', tk, h3, h4, k.trans0 h5, h6, h7.mono fun b q => ⟨k.fresh q.1, q.2⟩⟩
theorem star_one {e : Expr} (h : isStar e = false) (r : List Expr) : starEach (e :: r) env = (false, eval e env) :: starEach r env := by cases e <;> first | rfl | exact noTrue h.symm
theorem args_ok (H : SEx prog w C hB gA bA E n) (ha : Amb C A n F) (he : EnvOk gA bA env sc L) (S : St prog w hB F sc L R K G σ m s.heap) (f : Value) (pos : Pos) (es : List Expr) (hns : exs E sc es σ ≠ .stuck) :
    wpAny (model prog w) A (evalArgs f true (backTo pos (starEach es env)) []) (fun x s' => ∃ us, x = ⟨us, []⟩ ∧ PE prog w hB F sc L R K G m s (exs E sc es σ) VRs us s') (PX C F K s (exs E sc es σ)) s := by
  have h := exs_ok H ha he pos es S hns
  cases es with
  | nil => exact evalArgs_kw_nil rfl (wpAny_evalAll_nil ⟨[], rfl, PE.here S .nil⟩)
  | cons e r =>
    have hst : isStar e = false := by
      cases q : isStar e with
      | false => rfl
      | true => unfold exs at hns; rw [q] at hns; exact absurd rfl hns
    have hse := star_one (env := env) hst r
    rw [hse] at h ⊢
    exact Calls.evalArgs_plain (wpAny_mono h (fun us s' x => ⟨us, rfl, x⟩) fun _ _ x => x)
theorem fn_call (B : BaseOk C hB gA bA mg mb) (H : SEx prog w C hB gA bA E n) (Hc : SCl prog w C hB gA bA E n) (ha : Amb C A n F) (he : EnvOk gA bA env sc L) (S : St prog w hB F sc L R K G σ m s.heap) {f : Str} {fn : Fn} {fp pos : Pos} {args : List Expr}
    (hf : C.fns f = some fn) (hg : isG sc f = true) {x : Rs (PV × Loc)} (hx : x = (exs E sc args σ).bind fun p => (E.cl f p.1).bind fun v => .ok (v, p.2)) (hns : x ≠ .stuck) :
    wpAny (model prog w) A (eval (.Call (.Name f fp) args [] pos) env) (PE prog w hB F sc L R K G m s x VR) (PX C F K s x) s := by
  obtain ⟨a, hm, hok⟩ := B.fns f fn hf
  obtain ⟨o, fd, ho, hd, _⟩ := hok.there
  refine wpAny_Call_NameR (load_global B he S hg hm ?_)
  refine Calls.callWith_function (o := o) (fd := fd) (wpAny_mono (args_ok H ha he S (.ref a) pos args (bnN hx hns)) (fun y s₁ h₁ => ?_) fun e s' y => y.cast0 (bnE hx))
  obtain ⟨us, rfl, q, σ₁, G₁, h₁, tk, e1, rfl, S₁, g₁, hus⟩ := h₁
  replace hx := bnO hx e1
  refine ⟨⟨S₁.base_in (s := { s with heap := h₁, toks := tk }) ho, hd⟩, wpAny_call ?_⟩
  refine codeAny_mono (Hc (s := { s with heap := h₁, toks := tk }) ha S₁.gin S₁.base S₁.ff S₁.gfr hf hok hus (bnN hx hns)) fun r s' hr => ?_
  cases r with
  | error e => exact (hr.rebase S₁.kept).cast (s₁ := s) (bnE hx)
  | ok fl =>
    cases fl with
    | ret v =>
      obtain ⟨p, G', h', tk', e2, rfl, t, g', gr, hv⟩ := hr
      have hx1 := bnO hx e2
      exact PE.finR hx1 (S₁.tr t g' gr.1 gr.2) (g₁.trans ⟨gr.1, fun a o q => (gr.2 a o q).imp id (S₁.rk a)⟩) hv
    | _ => exact hr.elim
theorem bi_call (B : BaseOk C hB gA bA mg mb) (H : SEx prog w C hB gA bA E n) (ha : Amb C A n F) (he : EnvOk gA bA env sc L) (S : St prog w hB F sc L R K G σ m s.heap) {f : Str} {fp pos : Pos} {a : Expr}
    (hst : isStar a = false) (hbi : isBi f = true) (hg : isG sc f = true) {x : Rs (PV × Loc)} (hx : x = (E.ex sc a σ).bind fun p => (Rs.of (builtin1 f p.1)).bind fun r => .ok (r, p.2)) (hns : x ≠ .stuck) :
    wpAny (model prog w) A (eval (.Call (.Name f fp) [a] [] pos) env) (PE prog w hB F sc L R K G m s x VR) (PX C F K s x) s := by
  refine wpAny_Call_NameR ?_
  have hse : backTo pos (starEach [a] env) = [(false, eval a env)] := by rw [star_one hst]; rfl
  rw [hse]
  have arg : ∀ {Q : Value → Shared → Prop}, (∀ p σ₁ v G₁ h₁ tk, E.ex sc a σ = .ok (p, σ₁) → St prog w hB F sc L R K G₁ σ₁ m h₁ → Gr R G G₁ → Rep G₁ v p → Q v { s with heap := h₁, toks := tk }) →
      wpAny (model prog w) A (eval a env) Q (PX C F K s x) s := fun hq =>
    runE (H a ha he S (bnN hx hns)) (fun p σ₁ v G₁ h₁ tk e1 S₁ g₁ hv => hq p σ₁ v G₁ h₁ tk e1 S₁ g₁ hv) fun e s' x => x.cast0 (bnE hx)
  by_cases h1 : (f == Str.ofString "len") = true
  · have hf : f = ("len" : Str) := eq_of_beq h1
    subst hf
    refine load_builtin B he S hg B.len ?_
    refine Calls.callWith_builtin rfl (Calls.evalArgs_plain (Calls.spliced_cons (arg fun p σ₁ v G₁ h₁ tk e1 S₁ g₁ hv => Calls.spliced_nil ?_)))
    have hx1 := bnO hx e1
    obtain ⟨z, hz, e3⟩ := bnF hx1 hns
    exact lenP_ok (s := { s with heap := h₁, toks := tk }) S₁.gin hv hz (PE.opR e3 S₁ g₁)
  by_cases h2 : (f == Str.ofString "bytes") = true
  · have hf : f = ("bytes" : Str) := eq_of_beq h2
    subst hf
    refine load_builtin B he S hg B.bytes ?_
    refine callWith_type1 (arg fun p σ₁ v G₁ h₁ tk e1 S₁ g₁ hv => ?_)
    have hx1 := bnO hx e1
    obtain ⟨z, hz, e3⟩ := bnF hx1 hns
    exact bytesP_ok (s := { s with heap := h₁, toks := tk }) ha.handled S₁.gin hv hz (PE.opR e3 S₁ g₁)
  by_cases h3 : (f == Str.ofString "type") = true
  · have hf : f = ("type" : Str) := eq_of_beq h3
    subst hf
    refine load_builtin B he S hg B.type ?_
    refine callWith_type1 (arg fun p σ₁ v G₁ h₁ tk e1 S₁ g₁ hv => ?_)
    have hx1 := bnO hx e1
    obtain ⟨z, hz, e3⟩ := bnF hx1 hns
    have hz' : (typeP p).map .type = some z := hz
    cases ht : typeP p with
    | none => rw [ht] at hz'; cases hz'
    | some nm =>
      rw [ht] at hz'
      injection hz' with hz'
      subst hz'
      exact typeP_ok (s := { s with heap := h₁, toks := tk }) S₁.gin hv ht (PE.opR e3 S₁ g₁)
  · exfalso
    unfold isBi at hbi
    simp [h1, h2, h3] at hbi
theorem call_step (B : BaseOk C hB gA bA mg mb) (H : SEx prog w C hB gA bA E n) (Hc : SCl prog w C hB gA bA E n) (ha : Amb C A n F) (he : EnvOk gA bA env sc L) (S : St prog w hB F sc L R K G σ m s.heap) {f : Str} {fp pos : Pos} {args : List Expr}
    (hns : callE C E sc f args σ ≠ .stuck) :
    wpAny (model prog w) A (eval (.Call (.Name f fp) args [] pos) env) (PE prog w hB F sc L R K G m s (callE C E sc f args σ) VR) (PX C F K s (callE C E sc f args σ)) s := by
  obtain ⟨y, hy⟩ : ∃ y, y = callE C E sc f args σ := ⟨_, rfl⟩
  rw [← hy] at hns ⊢
  unfold callE at hy
  by_cases hc : ((σ.get f).isNone && isG sc f && decide (args.length < 30)) = true
  · replace hy := hy.trans (if_pos hc)
    have hg := (Bool.and_eq_true_iff.mp (Bool.and_eq_true_iff.mp hc).1).2
    cases hf : C.fns f with
    | some fn => rw [hf] at hy; exact fn_call B H Hc ha he S hf hg hy hns
    | none =>
      rw [hf] at hy
      rcases args with _ | ⟨a, _ | ⟨_, _⟩⟩
      · exact absurd hy hns
      · by_cases hb : (isStar a || !isBi f) = true
        · exact absurd (hy.trans (if_pos hb)) hns
        · have hb' := Bool.or_eq_false_iff.mp (Bool.eq_false_iff.mpr hb)
          exact bi_call B H ha he S hb'.1 ((Bool.not_eq_false' _).mp hb'.2) hg (hy.trans (if_neg hb)) hns
      · exact absurd hy hns
  · exact absurd (hy.trans (if_neg hc)) hns
inductive MethForm : Expr → Str → Prop
  | join (k : Nat) (p : Pos) : MethForm (.Constant (.bytes []) k p) ("join" : Str)
  | count (x : Str) (q : Pos) : MethForm (.Name x q) ("count" : Str)
theorem meth_form {o a : Expr} {nm : Str} (hs : isStar a = false) (h : methE E sc o nm a σ ≠ .stuck) : MethForm o nm := by
  unfold methE at h
  rw [hs, if_neg Bool.false_ne_true] at h
  by_cases h1 : (nm == Str.ofString "join") = true
  · rw [if_pos h1] at h
    have hn : nm = ("join" : Str) := eq_of_beq h1
    subst hn
    cases o with
    | Constant c k p =>
      cases c with
      | bytes b =>
        cases b with
        | nil => exact .join ..
        | cons _ _ => exact absurd rfl h
      | _ => exact absurd rfl h
    | _ => exact absurd rfl h
  · rw [if_neg h1] at h
    by_cases h2 : (nm == Str.ofString "count") = true
    · rw [if_pos h2] at h
      have hn : nm = ("count" : Str) := eq_of_beq h2
      subst hn
      cases o with
      | Name x q => exact .count ..
      | _ => exact absurd rfl h
    · rw [if_neg h2] at h; exact absurd rfl h
theorem meth_star {o a : Expr} {nm : Str} (h : methE E sc o nm a σ ≠ .stuck) : isStar a = false := by
  cases hs : isStar a with
  | false => rfl
  | true => unfold methE at h; rw [hs] at h; exact absurd rfl h
theorem meth_join {a : Expr} {k : Nat} {p : Pos} (hs : isStar a = false) : methE E sc (.Constant (.bytes []) k p) ("join" : Str) a σ = (E.ex sc a σ).bind fun p => match p.1 with
      | .list xs => (Rs.of (joinBytes xs)).bind fun b => if b.length ≤ lim then .ok (.bytes b, p.2) else .stuck
      | _ => .stuck := by
  unfold methE
  rw [hs]; rfl
theorem meth_count {a : Expr} {x : Str} {q : Pos} (hs : isStar a = false) : methE E sc (.Name x q) ("count" : Str) a σ = (E.ex sc (.Name x q) σ).bind fun p => match p.1 with
      | .list xs => (E.ex sc a p.2).bind fun q => (Rs.of (countP q.1 xs)).bind fun n => .ok (.int n, q.2)
      | _ => .stuck := by
  unfold methE
  rw [hs]; rfl
theorem meth_step (H : SEx prog w C hB gA bA E n) (ha : Amb C A n F) (he : EnvOk gA bA env sc L) (S : St prog w hB F sc L R K G σ m s.heap) {o a : Expr} {nm : Str} {ap pos : Pos} (hline : (ap.endLine == pos.line) = true)
    (hns : methE E sc o nm a σ ≠ .stuck) :
    wpAny (model prog w) A (eval (.Call (.Attribute o nm ap) [a] [] pos) env) (PE prog w hB F sc L R K G m s (methE E sc o nm a σ) VR) (PX C F K s (methE E sc o nm a σ)) s := by
  have hst := meth_star hns
  have hse : starEach [a] env = [(false, eval a env)] := by rw [star_one hst]; rfl
  cases meth_form hst hns with
  | join k p =>
    obtain ⟨y, hy⟩ : ∃ y, y = methE E sc (.Constant (.bytes []) k p) ("join" : Str) a σ := ⟨_, rfl⟩
    rw [← hy] at hns ⊢
    replace hy := hy.trans (meth_join hst)
    refine Call_method1 rfl hse hline (fun _ _ _ => ?_)
    refine ⟨"bytes", "bytes.join", FB.plainAttrs_bytes, slot_bytes_join, type_bytes_join, typeIs_bytes _ _ _, (fun _ e => nomatch e), ?_⟩
    refine Calls.callWith_builtin rfl (Calls.evalArgs_plain (Calls.spliced_cons (s := { s with toks := s.toks + 1 }) ?_))
    refine runE (s := { s with toks := s.toks + 1 }) (H a ha he (s := { s with toks := s.toks + 1 }) S (bnN hy hns)) (fun p σ₁ v G₁ h₁ tk e1 S₁ g₁ hv => Calls.spliced_nil ?_) fun e s' x => x.cast (s₁ := s) (bnE hy)
    replace hy := bnO hy e1
    dsimp only at hy
    cases p with
    | list xs =>
      obtain ⟨z, hz, e3⟩ := bnF hy hns
      by_cases hz' : z.length ≤ lim
      · exact joinP_ok (a := .none) (s := { s with heap := h₁, toks := tk }) S₁.gin hv hz hz' (PE.opR (e3.trans (if_pos hz')) S₁ g₁)
      · exact absurd (e3.trans (if_neg hz')) hns
    | _ => exact absurd hy hns
  | count x q =>
    obtain ⟨y, hy⟩ : ∃ y, y = methE E sc (.Name x q) ("count" : Str) a σ := ⟨_, rfl⟩
    rw [← hy] at hns ⊢
    replace hy := hy.trans (meth_count hst)
    refine Call_method1 rfl hse hline ?_
    refine runE (H _ ha he S (bnN hy hns)) (fun p σ₁ v G₁ h₁ tk e1 S₁ g₁ hv => ?_) fun e s' x => x.cast0 (bnE hy)
    replace hy := bnO hy e1
    dsimp only at hy
    cases p with
    | list xs =>
      have hv0 := hv
      cases hv.lst with | mk aa oa vs na ea ca dna da la =>
      refine ⟨"list", "list.count", PySem.F.plainAttrs_list, PySem.F.slot_list_count, PySem.F.type_list_count, ⟨oa, S₁.gin _ _ ea, ca⟩, (fun b e => by cases e; exact ⟨oa, S₁.gin _ _ ea, dna⟩), ?_⟩
      refine Calls.callWith_builtin rfl (Calls.evalArgs_plain (Calls.spliced_cons ?_))
      refine runE (s := { s with heap := h₁, toks := tk }) (H a ha he (s := { s with heap := h₁, toks := tk }) S₁ (bnN hy hns)) (fun q σ₂ u G₂ h₂ tk₂ e2 S₂ g₂ hu => Calls.spliced_nil ?_) fun e s' x => x.cast (s₁ := s) (bnE hy)
      replace hy := bnO hy e2
      obtain ⟨z, hz, e3⟩ := bnF hy hns
      exact countP_ok (s := { s with heap := h₂, toks := tk₂ }) S₂.gin ha.units' (hv0.mono g₂.1) hu hz (PE.opR e3 S₂ (g₁.trans g₂))
    | _ => exact absurd hy hns
end
end Mine
set_option maxRecDepth 100000
set_option linter.unusedVariables false
set_option linter.unusedSimpArgs false
namespace Mine
open PySem PyProof.Rows PySem.W
theorem freshLoc_get {sc : Scope} {x : Str} {sl : Slot} (h : (freshLoc sc).get x = some sl) : sl = .unb ∧ ∃ p ∈ sc.names, p.1 = x ∧ p.2 = .local := by
  unfold freshLoc Loc.get at h
  generalize sc.names = l at h ⊢
  induction l with
  | nil => cases h
  | cons p r ih =>
    rw [List.filterMap_cons] at h
    obtain ⟨y, k⟩ := p
    by_cases hk : k = .local
    · subst hk
      simp only [List.lookup_cons] at h
      by_cases hx : (x == y) = true
      · simp only [hx] at h
        injection h with h
        exact ⟨h.symm, (y, .local), .head _, (eq_of_beq hx).symm, rfl⟩
      · have hx' : (x == y) = false := by simpa using hx
        simp only [hx'] at h
        obtain ⟨h1, p, h2, h3⟩ := ih h
        exact ⟨h1, p, .tail _ h2, h3⟩
    · have h' : List.lookup x (List.filterMap (fun p => match p.2 with | NameKind.local => some (p.1, Slot.unb) | _ => none) r) = some sl := by
        cases k <;> first | exact h | exact absurd rfl hk
      obtain ⟨h1, p, h2, h3⟩ := ih h'
      exact ⟨h1, p, .tail _ h2, h3⟩
theorem scopeOk_dom {sc : Scope} (h : scopeOk sc = true) {x : Str} (hx : ((freshLoc sc).get x).isSome = true) : sc.names.lookup x = some .local := by
  obtain ⟨sl, hs⟩ := Option.isSome_iff_exists.mp hx
  obtain ⟨_, p, h1, h2, h3⟩ := freshLoc_get hs
  unfold scopeOk at h
  simp only [Bool.and_eq_true, List.all_eq_true] at h
  have := (h.2 p h1).2
  rw [h3, h2] at this
  simpa using this
noncomputable def LocOk (G : GM) (σ : Loc) (m : Str → Option Value) : Prop := ∀ x sl, σ.get x = some sl → sl = .unb ∨ ∃ p v, sl = .val p ∧ m x = some v ∧ Rep G v p
theorem bindAll_ok {G : GM} : ∀ (xs : List Str) (vs : List PV) {us : List Value} {σ σ' : Loc} {m : Str → Option Value}, RepL G us vs → bindAll xs vs σ = some σ' → LocOk G σ m →
    us.length = xs.length ∧ (∀ x ∈ xs, (σ.get x).isSome = true) ∧ (∀ x, (σ'.get x).isSome = true → (σ.get x).isSome = true) ∧ LocOk G σ' (fun x => ((xs.zip us).reverse.lookup x).or (m x))
  | [], [], us, σ, σ', m, hr, h, ho => by
    cases hr
    cases (Option.some.inj (show some σ = some σ' from h))
    exact ⟨rfl, by simp, fun _ q => q, by simpa using ho⟩
  | x :: xs, v :: vs, _, σ, σ', m, .cons (v := u) (vs := us) h1 h2, h, ho => by
    replace h : (match σ.get x with
      | some _ => bindAll xs vs (σ.set x (.val v))
      | none => none) = some σ' := h
    cases hx : σ.get x with
    | none => rw [hx] at h; exact noSome h
    | some sl =>
      rw [hx] at h
      replace h : bindAll xs vs (σ.set x (.val v)) = some σ' := h
      have ho' : LocOk G (σ.set x (.val v)) (fun y => if y = x then some u else m y) := by
        intro y sl' hy
        by_cases q : y = x
        · subst q
          rw [Loc.get_set_self hx] at hy
          cases hy
          exact .inr ⟨v, u, rfl, by simp, h1⟩
        · rw [Loc.get_set_ne q] at hy
          simp only [if_neg q]
          exact ho y sl' hy
      obtain ⟨r1, r2, r3, r4⟩ := bindAll_ok xs vs h2 h ho'
      refine ⟨by simp [r1], ?_, fun y hy => Loc.set_dom (r3 y hy), ?_⟩
      · intro y hy
        rcases List.mem_cons.mp hy with rfl | hy
        · rw [hx]; rfl
        · exact Loc.set_dom (r2 y hy)
      · have e : (fun y => (((x :: xs).zip (u :: us)).reverse.lookup y).or (m y)) = fun y => ((xs.zip us).reverse.lookup y).or (if y = x then some u else m y) := by
          funext y
          simp only [List.zip_cons_cons, List.reverse_cons, List.lookup_append, Option.or_assoc, List.lookup_cons, List.lookup_nil]
          by_cases q : y = x
          · subst q; simp
          · have hb : (y == x) = false := beq_eq_false_iff_ne.mpr q
            simp [hb, q]
        rw [e]; exact r4
  | [], _ :: _, _, _, _, _, _, h, _ => by cases h
  | _ :: _, [], _, _, _, _, _, h, _ => by cases h
section
variable {prog : Program} {w : World} {C : Ctx} {hB : Heap} {gA bA : Addr} {mg mb : Str → Option Value} {E : Ev} {n : Nat}
theorem stepCl_some {f : Str} {fn : Fn} {vs : List PV} (hf : C.fns f = some fn) : stepCl C E f vs = (Rs.of (bindAll fn.params vs (freshLoc fn.scope))).bind fun σ => (E.ss fn.scope fn.body σ).bind fun p => (match p.1 with
      | .ret v => .ok v
      | .next => .stuck) := by unfold stepCl; rw [hf]; try rfl
theorem cl_step (B : BaseOk C hB gA bA mg mb) (H : SSs prog w C hB gA bA E n) : SCl prog w C hB gA bA { E with cl := stepCl C E } (n + 1) := by
  intro A F G s f fn a vs us ha g base ff gfr hf hok hus hns
  change stepCl C E f vs ≠ .stuck at hns
  show codeAny (model prog w) A (.call (.ref a) ⟨us, []⟩) (fun r s' => match r with
    | .ok (.ret v) => CR F G s (stepCl C E f vs) v s'
    | .ok _ => False
    | .error e => PX C F s.heap.get? s (stepCl C E f vs) e s') s
  obtain ⟨y, hy⟩ : ∃ y, y = stepCl C E f vs := ⟨_, rfl⟩
  rw [← hy] at hns ⊢
  replace hy := hy.trans (stepCl_some hf)
  obtain ⟨σ, hσ, hy⟩ := bnF hy hns
  obtain ⟨hlen, hpar, hdom, hloc⟩ := bindAll_ok (m := fun _ => none) fn.params vs hus hσ (fun x sl h => .inl (freshLoc_get h).1)
  simp only [Option.or_none] at hloc
  have hsc := hok.scope
  obtain ⟨o, fd, ho, hd, hcd, hbody, hscope, hglob, hbi, hbind⟩ := hok.there
  have bin : ∀ b o, hB.get? b = some o → s.heap.get? b = some o := fun b o e => g _ _ (base _ _ e)
  have hsc' := hsc
  unfold scopeOk at hsc'
  simp only [Bool.and_eq_true, List.all_eq_true, Bool.not_eq_true'] at hsc'
  obtain ⟨⟨⟨⟨hk, hgen⟩, hco⟩, hdbg⟩, hall⟩ := hsc'
  have hk' : fd.scope.kind = .function := by rw [hscope]; exact eq_of_beq hk
  refine codeAny_call_def (by have := ha.depth; (exact (linS [_, _, _] [.s 1 (.a (.v 0) (.a (.v 1) (.n 1))) (.v 2)] 1 (.v 0) (.v 2) rfl this))) (bin _ _ ho) hd (B.lim.keeps bin) (hcd.keeps bin) hbody (BindsTo.of_eq (hbind us hlen)) ?_ ?_ ?_ (by rw [hscope]; exact hco) (by rw [hscope]; exact hgen) hk'
  · intro x hx
    rw [hscope] at hx
    have := (hall x hx).1
    simpa using this
  · intro x hx
    rw [hscope]
    exact scopeOk_dom hsc (hpar x.1 (List.of_mem_zip hx).1)
  · intro h₀ hns₀ hk₀
    have hLs : s.heap.get? s.heap.objs.size = none := Heap.get?_none_of_le (Nat.le_refl _)
    have hfrL : (callEnv fd s.heap.objs.size a).frame = some s.heap.objs.size := rfl
    -- the frames below
    obtain ⟨F', hF'⟩ : ∃ F', F' = if C.exc = true then callEnv fd s.heap.objs.size a :: F else F := ⟨_, rfl⟩
    have hfr' : ∀ b, b ∈ framesOf F' → b ∈ framesOf F ∨ b = s.heap.objs.size := by
      intro b hb
      rw [hF'] at hb
      split at hb
      · unfold framesOf at hb ⊢
        rw [List.filterMap_cons, hfrL] at hb
        rcases List.mem_cons.mp hb with rfl | q
        · exact .inr rfl
        · exact .inl q
      · exact .inl hb
    have ff₀ : h₀.FunFrames noHeap F := FunFrames.tr ff (Tr.of_keeps (fr := []) (own := noOwn) hk₀) fun _ _ x => x
    have S₀ : St prog w hB F' fn.scope s.heap.objs.size s.heap.get? s.heap.get? G σ (fun x => (fn.params.zip us).reverse.lookup x) h₀ := by
      refine ⟨hns₀, g.keeps hk₀, .of_tr (Tr.of_keeps hk₀), fun b hb => kts_none hk₀ hb, base, ?_, g.fresh, ?_, fun x hx => scopeOk_dom hsc (hdom x hx), ?_, ?_, ?_⟩
      · rw [hF']
        split
        · obtain ⟨oL, es, ep, hL, hdL⟩ := ns_get hns₀
          exact ⟨fun q => (by rw [show (callEnv fd s.heap.objs.size a).scope.kind = fd.scope.kind from rfl, hk'] at q; cases q), ⟨s.heap.objs.size, oL, rfl, noHeap_get _, hL, fun vs e => by rw [hdL] at e; cases e⟩, ff₀⟩
        · exact ff₀
      · intro b hb
        rcases hfr' b hb with q | rfl
        · exact gfr b q
        · exact g.fresh
      · intro x sl hx
        rcases hloc x sl hx with rfl | ⟨p, v, rfl, hm, hr⟩
        · trivial
        · exact ⟨v, hm, hr⟩
      · rintro x b ⟨sl, h1, h2, h3⟩
        rcases hloc x sl h1 with rfl | ⟨p, v, rfl, hm, hr⟩ <;> cases h2
      · rintro x y b ⟨sl, h1, h2, h3⟩
        rcases hloc x sl h1 with rfl | ⟨p, v, rfl, hm, hr⟩ <;> cases h2
    have ha' : Amb C (A.deeper (callEnv fd s.heap.objs.size a)) n F' := by
      refine ⟨ha.handled, ?_, ?_, fun q => ?_⟩
      · have := ha.depth
        show A.depth + 1 + n < recursionLimit
        (exact (linS [_, _, _] [.s 1 (.a (.v 0) (.a (.v 1) (.n 1))) (.v 2)] 1 (.a (.a (.v 0) (.n 1)) (.v 1)) (.v 2) rfl this))
      · have := ha.units
        show A.units + 3 + 4 * n + 40 < cLine
        (exact (linS [_, _, _] [.s 1 (.a (.a (.v 0) (.m 4 (.a (.v 1) (.n 1)))) (.n 40)) (.v 2)] 1 (.a (.a (.a (.v 0) (.n 3)) (.m 4 (.v 1))) (.n 40)) (.v 2) rfl this))
      · show A.frames.map _ = _
        rw [ha.frames q, hF', if_pos q]; rfl
    have he' : EnvOk gA bA (callEnv fd s.heap.objs.size a) fn.scope s.heap.objs.size :=
      ⟨hscope, eq_of_beq hk, by simpa using hdbg, rfl, hglob, hbi⟩
    have hkept : ∀ {h' : Heap}, TrR (framesOf F') s.heap.get? h' → TrR (framesOf F) s.heap.get? h' := fun t => t.mono fun b hb => (hfr' b hb).imp id fun q => by rw [q]; exact hLs
    refine wpAny_mono (H (s := { s with heap := h₀, toks := s.toks + (fn.params.zip us).length }) fn.body ha' he' S₀ hLs (fun q => ⟨F, by rw [hF', if_pos q], rfl⟩) (bnN hy hns)) (fun fl s' x => ?_) fun e s' x => ?_
    · obtain ⟨oc, σ', m', G', h', tk, e1, rfl, S', gr, hfl⟩ := x
      replace hy := bnO hy e1
      dsimp only at hy
      cases oc with
      | next => exact absurd hy hns
      | ret p =>
        obtain ⟨v, rfl, hv⟩ := hfl
        exact ⟨p, G', h', tk, hy, rfl, hkept S'.kept, S'.gin, gr, hv⟩
    · obtain ⟨e1, hexc, x, h', tk, rfl, rfl, ht, hff, hX⟩ := x
      have hFe : F' = callEnv fd s.heap.objs.size a :: F := by rw [hF', if_pos hexc]
      rw [hFe] at ht hff hX
      unfold leaving
      refine wpAny_bind (noteFrame_ok (s := { s with heap := h', toks := tk }) (outer := F) (by show A.frames.map _ = _; rw [ha.frames hexc]; rfl) hff hfrL hX (fun b hb => ⟨ht.fresh hb, fun q => ?_⟩) (fun b hb q => q.2 hb) fun h₁ t₁ X₁ => ?_)
      · obtain ⟨o', ho'⟩ := FunFrames.get hff q
        rw [show h'.get? b = none from hb] at ho'; cases ho'
      · refine setFlight_ok (s := { s with heap := h₁, toks := tk }) (env := callEnv fd s.heap.objs.size a) (outer := F) none X₁ fun h₂ t₂ X₂ => ?_
        have t12 := t₁.same t₂
        refine ⟨bnE hy e1, hexc, x, h₂, tk, rfl, rfl, (ht.trans t12 fun b q => q.1).mono fun b hb => ?_, ?_, ?_⟩
        · unfold framesOf at hb ⊢
          rw [List.filterMap_cons, hfrL] at hb
          rcases List.mem_cons.mp hb with rfl | q
          · exact .inr hLs
          · exact .inl q
        · exact (FunFrames.tr hff t12 fun b hb q => q.2 hb).2.2
        · refine ⟨⟨X₂.own.1, fun q => X₂.own.2 ?_⟩, ?_⟩
          · unfold framesOf at q ⊢
            rw [List.filterMap_cons, hfrL]
            exact List.mem_cons_of_mem _ q
          · obtain ⟨oe, ws, y1, y2, y3, y4, y5⟩ := X₂.there
            refine ⟨oe, ws, y1, y2, y3, y4, .inr ?_⟩
            rcases y5 with ⟨q, _⟩ | ⟨T, oT, ts, z1, z2, z3⟩
            · exact absurd trivial q
            · refine ⟨T, oT, ts, z1, ⟨z2.1, fun q => z2.2 ?_⟩, z3⟩
              unfold framesOf at q ⊢
              rw [List.filterMap_cons, hfrL]
              exact List.mem_cons_of_mem _ q
end
end Mine
set_option maxRecDepth 100000
set_option linter.unusedVariables false
set_option linter.unusedSimpArgs false
namespace Mine
open PySem PyProof.Rows PySem.W
section
variable {prog : Program} {w : World} {C : Ctx} {hB : Heap} {gA bA : Addr} {mg mb : Str → Option Value} {E : Ev} {n : Nat}
variable {A : Around} {F : List Env} {sc : Scope} {L : Addr} {env : Env} {R K G : GM} {σ : Loc} {m : Str → Option Value} {s : Shared}
theorem store_ok (he : EnvOk gA bA env sc L) (S : St prog w hB F sc L R K G σ m s.heap) {x : Str} {v : Value} {sl₀ : Slot} {Q : Unit → Shared → Prop} {X : Value → Shared → Prop} (hx : σ.get x = some sl₀)
    (hQ : ∀ h', h'.Ns L (fun y => if y = x then some v else m y) → Heap.SameBut L s.heap h' → Q () { s with heap := h', toks := s.toks + 1 }) : wpAny (model prog w) A (storeName env x v) Q X s := by
  refine wpAny_storeName_local (m := m) (by rw [he.kindOf]; exact S.dom x (by rw [hx]; rfl)) (he.loc ▸ S.ns) (fun h' h1 h2 => hQ h' (he.loc ▸ h1) (he.loc ▸ h2)) ?_
  rw [he.scope, he.kind]; rfl
theorem names_each : ∀ (ts : List Expr) (xs : List Str), names? ts = some xs → (assignEach ts env).length = xs.length ∧ (assignEach ts env).findIdx? (·.1) = none
  | [], xs, h => by cases h; exact ⟨rfl, rfl⟩
  | t :: ts, xs, h => by
    cases t with
    | Name x px =>
      have h : (names? ts).map (x :: ·) = some xs := h
      cases hn' : names? ts with
      | none => rw [hn'] at h; cases h
      | some ys =>
        rw [hn'] at h
        simp only [Option.map_some, Option.some.injEq] at h
        subst h
        obtain ⟨h1, h2⟩ := names_each ts ys hn'
        refine ⟨by show (assignEach ts env).length + 1 = ys.length + 1; rw [h1], ?_⟩
        show List.findIdx? (·.1) ((false, assign (.Name x px) env) :: assignEach ts env) = none
        rw [List.findIdx?_cons, h2]; rfl
    | _ => exact noSome h
theorem bindAll_len : ∀ (xs : List Str) (ps : List PV) {σ σ' : Loc}, bindAll xs ps σ = some σ' → xs.length = ps.length
  | [], [], _, _, _ => rfl
  | x :: xs, p :: ps, σ, σ', h => by
    have h : (match σ.get x with
      | some _ => bindAll xs ps (σ.set x (.val p))
      | none => none) = some σ' := h
    cases hx : σ.get x with
    | none => rw [hx] at h; cases h
    | some sl => rw [hx] at h; exact congrArg (· + 1) (bindAll_len xs ps h)
  | [], _ :: _, _, _, h => by cases h
  | _ :: _, [], _, _, h => by cases h
theorem bindNames_ok (he : EnvOk gA bA env sc L) (hK : K L = none) : ∀ (ts : List Expr) (xs : List Str) (ps : List PV) {us : List Value} {σ σ' : Loc} {m : Str → Option Value} {s : Shared} {Q : Unit → Shared → Prop} {X : Value → Shared → Prop},
    names? ts = some xs → RepL G us ps → bindAll xs ps σ = some σ' → St prog w hB F sc L R K G σ m s.heap →
    (∀ m' h' tk, St prog w hB F sc L R K G σ' m' h' → (∀ b, b ≠ L → h'.get? b = s.heap.get? b) → Q () { s with heap := h', toks := tk }) →
    wpAny (model prog w) A (assignInOrder ((assignEach ts env).map (·.2)) us) Q X s
  | [], xs, ps, us, σ, σ', m, s, Q, X, hn, hr, hb, S, hQ => by
    cases hn
    cases hr with
    | nil =>
      cases hb
      exact wpAny_pure (hQ m s.heap s.toks S fun _ _ => rfl)
    | cons => cases hb
  | t :: ts, xs, ps, us, σ, σ', m, s, Q, X, hn, hr, hb, S, hQ => by
    cases t with
    | Name x px =>
      have hn : (names? ts).map (x :: ·) = some xs := hn
      cases hn' : names? ts with
      | none => rw [hn'] at hn; cases hn
      | some ys =>
        rw [hn'] at hn
        simp only [Option.map_some, Option.some.injEq] at hn
        subst hn
        cases hr with
        | nil => cases hb
        | @cons u us p ps h1 h2 =>
          replace hb : (match σ.get x with
            | some _ => bindAll ys ps (σ.set x (.val p))
            | none => none) = some σ' := hb
          cases hx : σ.get x with
          | none => rw [hx] at hb; exact noSome hb
          | some sl =>
            rw [hx] at hb
            replace hb : bindAll ys ps (σ.set x (.val p)) = some σ' := hb
            refine assignInOrder_cons (wpAny_assign_Name (store_ok he S hx fun h' hns hsb => ?_))
            exact bindNames_ok he hK (s := { s with heap := h', toks := s.toks + 1 }) ts ys ps hn' h2 hb (S.storeVal hK hx hns hsb h1) fun m' h'' tk S' k => hQ m' h'' tk S' fun b hb => (k b hb).trans (hsb.2 b hb)
    | _ => exact noSome hn
inductive AsForm : Expr → PV → Prop
  | name (x : Str) (px : Pos) (p : PV) : AsForm (.Name x px) p
  | tuple (ts : List Expr) (k : Nat) (pos : Pos) (vs : List PV) : AsForm (.Tuple ts k pos) (.tuple vs)
theorem assign_form {t : Expr} {p : PV} {σ σ' : Loc} (h : assignP t p σ = some σ') : AsForm t p := by
  cases t with
  | Name x px => exact .name ..
  | Tuple ts k pos =>
    replace h : (match (generalizing := false) names? ts, p with
      | some xs, .tuple vs => bindAll xs vs σ
      | _, _ => none) = some σ' := h
    cases h1 : names? ts with
    | none => rw [h1] at h; exact noSome h
    | some xs =>
      rw [h1] at h
      cases p with
      | tuple vs => exact .tuple ..
      | _ => exact noSome h
  | _ => exact noSome h
theorem assign_ok (ha : Amb C A n F) (he : EnvOk gA bA env sc L) (hK : K L = none) (S : St prog w hB F sc L R K G σ m s.heap) {t : Expr} {v : Value} {p : PV} {σ' : Loc} (hr : Rep G v p) (h : assignP t p σ = some σ') {Q : Unit → Shared → Prop} {X : Value → Shared → Prop}
    (hQ : ∀ m' h' tk, St prog w hB F sc L R K G σ' m' h' → (∀ b o, b ≠ L → s.heap.get? b = some o → h'.get? b = some o) → Q () { s with heap := h', toks := tk }) :
    wpAny (model prog w) A (assign t env v) Q X s := by
  cases assign_form h with
  | name x px =>
    replace h : (match σ.get x with
      | some _ => some (σ.set x (.val p))
      | none => none) = some σ' := h
    cases hx : σ.get x with
    | none => rw [hx] at h; exact noSome h
    | some sl =>
      rw [hx] at h
      cases (Option.some.inj h)
      exact wpAny_assign_Name (store_ok he S hx fun h' hns hsb => hQ _ _ _ (S.storeVal hK hx hns hsb hr) fun b o hb e => (hsb.2 b hb).trans e)
  | tuple ts k pos vs =>
    replace h : (match names? ts, PV.tuple vs with
      | some xs, .tuple vs => bindAll xs vs σ
      | _, _ => none) = some σ' := h
    cases h1 : names? ts with
    | none => rw [h1] at h; exact noSome h
    | some xs =>
      rw [h1] at h
      replace h : bindAll xs vs σ = some σ' := h
      cases hr.tpl with | mk a o us nn ea ca da la =>
      obtain ⟨n1, n2⟩ := names_each (env := env) ts xs h1
      have hl : xs.length = vs.length := bindAll_len xs vs h
      refine assign_Tuple_tuple ha.handled (isTup_of S.gin ea ca da) (by rw [n1, hl, List.size_toArray, la.length]) n2 fun h' hext => ?_
      have ext : Ext G s.heap G h' := Ext.same S.gin fun b o e => hext b o (Nat.ne_of_lt (Heap.lt_size e)) e
      exact bindNames_ok he hK (s := { s with heap := h' }) ts xs vs h1 la h (S.ext ext) fun m' h'' tk S' kk => hQ m' h'' tk S' fun b o hb e => (kk b hb).trans (ext.keep b o e)
noncomputable def plainIter (c : String) : Bool := c == "list_iterator" || c == "tuple_iterator" || c == "bytes_iterator" || c == "range_iterator"
structure ItOk (prog : Program) (w : World) (A : Around) (I : Addr) (fp : List Addr) (n : Nat) (P : Nat → Value → Prop) (W : Nat → Heap → Prop) : Prop where
  walks : Walks prog w A I fp [I] n P W
  cls : ∀ i h, W i h → ∃ o c, h.get? I = some o ∧ o.cls = .type c ∧ plainIter c = true
theorem owned_ok {I : Addr} {o : Obj} {c : String} (ho : s.heap.get? I = some o) (hc : o.cls = .type c) (hn : plainIter c = true) (t : Expr) (v : Value) {Q : Unit → Shared → Prop} {X : Value → Shared → Prop} (h : Q () s) :
    wpAny (model prog w) A (letOwnedTupleGo t (.ref I) v) Q X s := by
  have hk : c = "list_iterator" ∨ c = "tuple_iterator" ∨ c = "bytes_iterator" ∨ c = "range_iterator" := by
    simp only [plainIter, Bool.or_eq_true, beq_iff_eq] at hn
    exact hn.elim (fun q => q.elim (fun q => q.elim .inl fun q => .inr (.inl q)) fun q => .inr (.inr (.inl q))) fun q => .inr (.inr (.inr q))
  cases v with
  | ref a =>
    have go : ∀ es k p, wpAny (model prog w) A (letOwnedTupleGo (.Tuple es k p) (.ref I) (.ref a)) Q X s := fun es k p => by
      unfold letOwnedTupleGo
      refine wpAny_bind (wpAny_load ho ?_)
      rw [hc]
      cases o.data with
      | fields vs => exact bm_if_false (Bool.and_eq_false_iff.mpr (.inl (by rcases hk with rfl | rfl | rfl | rfl <;> decide))) (wpAny_pure h)
      | _ => exact wpAny_pure h
    cases t with
    | Tuple es k p => exact go es k p
    | List es p => exact go es 0 p
    | _ => exact wpAny_pure h
  | _ => cases t <;> exact wpAny_pure h
theorem iter_ok (ha : Amb C A n F) (g : GIn G s.heap) {v : Value} {p : PV} {xs : List PV} (hr : Rep G v p) (h : itemsP p = some xs) {Q : Value → Shared → Prop} {X : Value → Shared → Prop}
    (hQ : ∀ o fp P W, o.isFreed = false → ItOk prog w A s.heap.objs.size fp xs.length P W → W 0 (s.heap.push o) → (∀ b ∈ fp, b = s.heap.objs.size ∨ ∃ o, G b = some o) → (∀ i u, i < xs.length → P i u → ∃ x, xs[i]? = some x ∧ Rep G u x) →
      Q (.ref s.heap.objs.size) { s with heap := s.heap.push o }) : wpAny (model prog w) A (pyIter v) Q X s := by
  have hne : ∀ {a : Addr} {o : Obj}, G a = some o → a ≠ s.heap.objs.size := fun e => Nat.ne_of_lt (Heap.lt_size (g _ _ e))
  cases hr <;> simp only [itemsP] at h <;> cases h
  · rename_i b t
    have WW := KBw.walks (prog := prog) (w := w) (A := A) ha.handled s.heap.objs.size b.toArray t
    refine KBw.pyIter_bytes (hQ _ [s.heap.objs.size] (fun i v => ∃ c u, b.toArray[i]? = some c ∧ v = .int (c.toNat : Int) u) (fun i h => KBw.IsBytesIter h s.heap.objs.size b.toArray t i) rfl ⟨?_, ?_⟩ ⟨_, Heap.get?_push_size _ rfl, rfl, rfl⟩ (fun b hb => .inl (by simpa using hb)) ?_)
    · rw [List.length_map, ← List.size_toArray]; exact WW
    · rintro i h ⟨o, h1, h2, h3⟩; exact ⟨o, _, h1, h2, by decide⟩
    · rintro i u _ ⟨c, t', h1, rfl⟩
      refine ⟨.int c.toNat, ?_, .int _ _⟩
      rw [List.getElem?_map, show b[i]? = some c from by simpa using h1]; rfl
  · rename_i a o vs nn ea ca da la
    have WW := Walks.tuple (prog := prog) (w := w) (A := A) ha.handled s.heap.objs.size a (hne ea) vs.toArray
    refine iter_tuple (isTup_of g ea ca da) (hQ _ [s.heap.objs.size, a] (fun i v => vs.toArray[i]? = some v) (fun i h => h.IsTupleIter s.heap.objs.size a i ∧ h.IsTuple a vs.toArray) rfl ⟨?_, ?_⟩ ⟨⟨_, Heap.get?_push_size _ rfl, rfl, rfl⟩, ⟨o, Heap.get?_push_of_some _ (g _ _ ea), ca, nn, da⟩⟩ (fun b hb => ?_) ?_)
    · rw [← la.length, ← List.size_toArray]; exact WW
    · rintro i h ⟨⟨o, h1, h2, h3⟩, _⟩; exact ⟨o, _, h1, h2, by decide⟩
    · rcases List.mem_cons.mp hb with q | q
      · exact .inl q
      · exact .inr ⟨o, by rw [show b = a from by simpa using q]; exact ea⟩
    · intro i u _ hu
      exact RepL.get' la (by simpa using hu)
  · rename_i a o vs nn ea ca dn da la
    have WW := Walks.list (prog := prog) (w := w) (A := A) ha.handled s.heap.objs.size a (hne ea) vs.toArray
    refine wpAny_pyIter_list (isList_of g ea ca da) (hQ _ [s.heap.objs.size, a] (fun i v => vs.toArray[i]? = some v) (fun i h => h.IsListIter s.heap.objs.size a i ∧ h.IsList a vs.toArray) rfl ⟨?_, ?_⟩ ⟨⟨_, Heap.get?_push_size _ rfl, rfl, rfl⟩, ⟨o, Heap.get?_push_of_some _ (g _ _ ea), ca, nn, da⟩⟩ (fun b hb => ?_) ?_)
    · rw [← la.length, ← List.size_toArray]; exact WW
    · rintro i h ⟨⟨o, h1, h2, h3⟩, _⟩; exact ⟨o, _, h1, h2, by decide⟩
    · rcases List.mem_cons.mp hb with q | q
      · exact .inl q
      · exact .inr ⟨o, by rw [show b = a from by simpa using q]; exact ea⟩
    · intro i u _ hu
      exact RepL.get' la (by simpa using hu)
end
end Mine
set_option maxRecDepth 100000
set_option linter.unusedVariables false
set_option linter.unusedSimpArgs false
namespace Mine
open PySem PyProof.Rows PySem.W
section
variable {prog : Program} {w : World} {C : Ctx} {hB : Heap} {gA bA : Addr} {mg mb : Str → Option Value} {E : Ev} {n : Nat}
variable {A : Around} {F : List Env} {sc : Scope} {L : Addr} {env : Env} {R K G : GM} {σ : Loc} {m : Str → Option Value} {s : Shared}
inductive RaForm (a : Expr) : Expr → Prop
  | mk (p pos : Pos) (h : isStar a = false) : RaForm a (.Call (.Name ("range" : Str) p) [a] [] pos)
theorem isRange_some {it a : Expr} (h : isRange it = some a) : RaForm a it := by
  cases it with
  | Call fe as kws pos =>
    cases fe with
    | Name f p =>
      rcases as with _ | ⟨a', _ | ⟨_, _⟩⟩
      · exact noSome h
      · rcases kws with _ | ⟨_, _⟩
        · have h : (if f == Str.ofString "range" && !isStar a' then some a' else none) = some a := h
          by_cases hc : (f == Str.ofString "range" && !isStar a') = true
          · rw [if_pos hc] at h
            have hc := Bool.and_eq_true_iff.mp hc
            injection h with h
            subst h
            have : f = ("range" : Str) := eq_of_beq hc.1
            subst this
            exact .mk p pos ((Bool.not_eq_true' _).mp hc.2)
          · rw [if_neg hc] at h; exact noSome h
        · exact noSome h
      · exact noSome h
    | _ => exact noSome h
  | _ => exact noSome h
theorem iterE_ok (B : BaseOk C hB gA bA mg mb) (H : SEx prog w C hB gA bA E n) (ha : Amb C A n F) (he : EnvOk gA bA env sc L) (S : St prog w hB F sc L R K G σ m s.heap) {it : Expr} (hns : iterE E sc it σ ≠ .stuck)
    {Q : Value → Shared → Prop} {X : Value → Shared → Prop}
    (hQ : ∀ xs σ₁ G₁ h₁ tk o fp P W, iterE E sc it σ = .ok (xs, σ₁) → St prog w hB F sc L R K G₁ σ₁ m h₁ → Gr R G G₁ → o.isFreed = false → ItOk prog w A h₁.objs.size fp xs.length P W → W 0 (h₁.push o) →
      (∀ b ∈ fp, b = h₁.objs.size ∨ ∃ o, G₁ b = some o) → (∀ i u, i < xs.length → P i u → ∃ x, xs[i]? = some x ∧ Rep G₁ u x) → Q (.ref h₁.objs.size) { s with heap := h₁.push o, toks := tk })
    (hX : ∀ e s', PX C F K s (iterE E sc it σ) e s' → X e s') : wpAny (model prog w) A (eval it env) (fun x s₁ => wpAny (model prog w) A (pyIter x) Q X s₁) X s := by
  obtain ⟨y, hy⟩ : ∃ y, y = iterE E sc it σ := ⟨_, rfl⟩
  rw [← hy] at hns hQ hX
  unfold iterE at hy
  cases hi : isRange it with
  | none =>
    rw [hi] at hy
    refine runE (H it ha he S (bnN hy hns)) (fun p σ₁ v G₁ h₁ tk e1 S₁ g₁ hv => ?_) fun e s' x => hX e s' (x.cast0 (bnE hy))
    replace hy := bnO hy e1
    obtain ⟨xs, hxs, e2⟩ := bnF hy hns
    exact iter_ok ha (s := { s with heap := h₁, toks := tk }) S₁.gin hv hxs fun o fp P W hf IO hW hfp hP => hQ xs σ₁ G₁ h₁ tk o fp P W e2 S₁ g₁ hf IO hW hfp hP
  | some a =>
    rw [hi] at hy
    cases isRange_some hi with | mk p pos hst =>
    by_cases hc : (isG sc (Str.ofString "range") && (σ.get (Str.ofString "range")).isNone) = true
    · replace hy := hy.trans (if_pos hc)
      replace hc := Bool.and_eq_true_iff.mp hc
      refine wpAny_Call_NameR (load_builtin B he S hc.1 B.range ?_)
      rw [show backTo pos (starEach [a] env) = [(false, eval a env)] from by rw [star_one hst]; rfl]
      refine callWith_type1 (runE (H a ha he S (bnN hy hns)) (fun p σ₁ v G₁ h₁ tk e1 S₁ g₁ hv => ?_) fun e s' x => hX e s' (x.cast0 (bnE hy)))
      replace hy := bnO hy e1
      obtain ⟨xs, hxs, e2⟩ := bnF hy hns
      cases hv <;> simp only [rangeP] at hxs <;> try cases hxs
      rename_i N t
      split at hxs
      · rename_i hb
        cases hxs
        have hlim : (lim : Int) = 16777216 := rfl
        refine call_range_1 ?_
        refine wpAny_pyIter_range (IsRange.new ..) (small_one (by decide) (by decide) (by omega) (by omega)) ?_
        have hsz : Builtin.Range.rangeSize 0 N 1 = (N.toNat : Int) := by rw [rangeSize_one]; split <;> omega
        have S₂ := S₁.ext (Ext.pushed S₁.gin { cls := .type "range", data := .fields #[.int 0 tk, .int N t, .int 1 (tk + 1)] })
        have WW := Walks.range (prog := prog) (w := w) (A := A) ha.handled (h₁.push { cls := .type "range", data := .fields #[.int 0 tk, .int N t, .int 1 (tk + 1)] }).objs.size 0 1 N.toNat
        refine hQ _ σ₁ G₁ _ (tk + 1 + 1) _ [(h₁.push { cls := .type "range", data := .fields #[.int 0 tk, .int N t, .int 1 (tk + 1)] }).objs.size] (fun i v => ∃ t, v = .int (0 + i * 1) t)
          (fun i h => IsRangeIter h (h₁.push { cls := .type "range", data := .fields #[.int 0 tk, .int N t, .int 1 (tk + 1)] }).objs.size (0 + (i : Nat) * 1) ((N.toNat : Int) - (i : Nat)) 1) e2 S₂ g₁ rfl ⟨?_, ?_⟩ ?_ ?_ ?_
        · rw [List.length_map, List.length_range]; exact WW
        · intro i h hW; exact ⟨_, _, hW, rfl, by decide⟩
        · have e1 : (0 + ((0 : Nat) : Int) * 1) = 0 := by simp
          have e2 : ((N.toNat : Int) - ((0 : Nat) : Int)) = Builtin.Range.rangeSize 0 N 1 := by rw [hsz]; simp
          rw [e1, e2]
          exact Heap.get?_push_size _ rfl
        · intro b hb; exact .inl (by simpa using hb)
        · rintro i u hi ⟨t', rfl⟩
          rw [List.length_map, List.length_range] at hi
          refine ⟨.int i, ?_, ?_⟩
          · rw [List.getElem?_map, List.getElem?_range hi]; rfl
          · rw [show (0 + (i : Int) * 1) = i from by omega]; exact .int _ _
      · cases hxs
    · exact absurd (hy.trans (if_neg hc)) hns
end
end Mine
set_option maxRecDepth 100000
set_option linter.unusedVariables false
set_option linter.unusedSimpArgs false
namespace Mine
open PySem PyProof.Rows PySem.W
section
variable {prog : Program} {w : World} {C : Ctx} {hB : Heap} {gA bA : Addr} {mg mb : Str → Option Value} {E : Ev} {n : Nat}
variable {A : Around} {F : List Env} {sc : Scope} {L : Addr} {env : Env} {R K G : GM} {σ : Loc} {m : Str → Option Value} {s : Shared} {h h' : Heap} {I : Addr} {o : Obj}
theorem St.reR {R' K' : GM} (S : St prog w hB F sc L R K G σ m h) (kept : TrR (framesOf F) K' h) (rk : ∀ a, h.get? a = none → R' a = none) (own : ∀ x a, Owned σ m x a → R' a = none) : St prog w hB F sc L R' K' G σ m h :=
  { S with kept := kept, rk := rk, own := fun x a O => ⟨(S.own x a O).1, (S.own x a O).2.1, own x a O⟩ }
theorem upd_ne {R : GM} {I b : Addr} {o : Obj} (h : b ≠ I) : upd R I o b = R b := by unfold upd; rw [if_neg h]
theorem upd_none {R : GM} {I b : Addr} {o : Obj} (h : upd R I o b = none) : b ≠ I ∧ R b = none := by
  by_cases q : b = I
  · subst q; rw [upd_self] at h; cases h
  · exact ⟨q, by rw [upd_ne q] at h; exact h⟩
theorem St.dropI (S : St prog w hB F sc L (upd R I o) (upd R I o) G σ m h) (hR : R I = none) : St prog w hB F sc L R R G σ m h := by
  refine S.reR ⟨fun b x e => S.kept.keep b x ?_⟩ (fun a ha => (upd_none (S.rk a ha)).2) fun x a O => (upd_none (S.own x a O).2.2).2
  rw [upd_ne fun q => by subst q; rw [hR] at e; cases e]; exact e
theorem St.addI (S : St prog w hB F sc L R R G σ m h) (ho : h.get? I = some o) (hn : ∀ x, ¬ Owned σ m x I) : St prog w hB F sc L (upd R I o) (upd R I o) G σ m h := by
  refine S.reR ⟨fun b x e => ?_⟩ (fun a ha => ?_) fun x a O => ?_
  · by_cases q : b = I
    · subst q; rw [upd_self] at e; cases e; exact ⟨o.slots, ho, fun _ => rfl⟩
    · rw [upd_ne q] at e; exact S.kept.keep b x e
  · rw [upd_ne fun q => by subst q; rw [ho] at ha; cases ha]; exact S.rk a ha
  · rw [upd_ne fun q => by subst q; exact hn x O]; exact (S.own x a O).2.2
theorem St.asideK (S : St prog w hB F sc L R K G σ m h) (k : ∀ b x, b ≠ I → h.get? b = some x → h'.get? b = some x) (hK : K I = none) (hR : R I = none) (hG : G I = none) (hL : I ≠ L) (hfr : I ∉ framesOf F) (hn : ∀ x, ¬ Owned σ m x I) :
    St prog w hB F sc L R K G σ m h' := by
  have t : Tr (framesOf F) (fun b => b = I) h h' := ⟨fun b x e q => ⟨x.slots, k b x q e, fun _ => rfl⟩⟩
  refine ⟨isNs_slots S.ns fun x e => ⟨x.slots, k L x (Ne.symm hL) e⟩, fun a x e => k a x (fun q => by subst q; rw [hG] at e; cases e) (S.gin a x e), S.kept.trans t fun b q => q ▸ hK, fun a ha => ?_, S.base, FunFrames.tr S.ff t fun b hb q => hfr (q ▸ hb), S.gL, S.gfr, S.dom, fun x sl e => ?_, S.own, S.inj⟩
  · by_cases q : a = I
    · exact q ▸ hR
    · cases e : h.get? a with
      | none => exact S.rk a e
      | some x => rw [k a x q e] at ha; cases ha
  · refine (S.loc x sl e).move (GSub.refl _) fun a h1 h2 => ⟨fun y q => k a y (fun w => hn x ⟨sl, e, h1, w ▸ h2⟩) q, ((S.loc x sl e).there h1 h2).2⟩
theorem St.aside (S : St prog w hB F sc L R R G σ m h) (k : ∀ b x, b ≠ I → h.get? b = some x → h'.get? b = some x) (hR : R I = none) (hG : G I = none) (hL : I ≠ L) (hfr : I ∉ framesOf F) (hn : ∀ x, ¬ Owned σ m x I) :
    St prog w hB F sc L R R G σ m h' := S.asideK k hR hR hG hL hfr hn
theorem Gr.dropI {G' : GM} (g : Gr (upd R I o) G G') : Gr R G G' := ⟨g.1, fun a x e => (g.2 a x e).imp id fun q => (upd_none q).2⟩
theorem Gr.notI {G' : GM} (g : Gr (upd R I o) G G') (h : G I = none) : G' I = none := by
  cases e : G' I with
  | none => rfl
  | some x =>
    rcases g.2 I x e with q | q
    · rw [h] at q; cases q
    · rw [upd_self] at q; cases q
theorem Gr.reI {G' : GM} {o' : Obj} (g : Gr (upd R I o) G G') : Gr (upd R I o') G G' :=
  ⟨g.1, fun a x e => (g.2 a x e).imp id fun q => by rw [upd_ne (upd_none q).1]; exact (upd_none q).2⟩
theorem noted_ok {α : Type} {r : Rs α} {e : Value} {s' : Shared} {Y : Value → Shared → Prop} (ha : Amb C A n F) (hF : C.exc = true → ∃ outer, F = env :: outer ∧ env.frame = some L) (x : PX C F K s r e s')
    (hY : r = .exc → C.exc = true → ∀ x h' tk, e = .ref x → TrR (framesOf F) K h' → h'.FunFrames noHeap F → ExcAt (fun b => K b = none ∧ b ∉ framesOf F) True x h' → Y e { s with heap := h', toks := tk }) :
    notedBy (model prog w) A env Y e s' := by
  obtain ⟨hr, hexc, x, h', tk, rfl, rfl, ht, hff, hX⟩ := x
  obtain ⟨outer, rfl, hfl⟩ := hF hexc
  unfold notedBy
  refine noteFrame_ok (s := { s with heap := h', toks := tk }) (outer := outer) (ha.frames hexc) hff hfl hX (fun b hb => ⟨ht.fresh hb, fun q => ?_⟩) (fun b hb q => q.2 hb) fun h₁ t₁ X₁ => ?_
  · obtain ⟨o', ho'⟩ := FunFrames.get hff q
    rw [show h'.get? b = none from hb] at ho'; cases ho'
  · exact hY hr hexc x h₁ tk rfl (ht.trans t₁ fun b q => q.1) (FunFrames.tr hff t₁ fun b hb q => q.2 hb) X₁
theorem cameBack_ok {x : Addr} {K : GM} {X : Value → Shared → Prop} (hF : ∃ outer, F = env :: outer ∧ env.frame = some L) (ht : TrR (framesOf F) K s.heap) (hff : s.heap.FunFrames noHeap F) (hX : ExcAt (fun b => K b = none ∧ b ∉ framesOf F) True x s.heap)
    (hE : ∀ h', TrR (framesOf F) K h' → h'.FunFrames noHeap F → ExcAt (fun b => K b = none ∧ b ∉ framesOf F) True x h' → X (.ref x) { s with heap := h' }) : cameBackBy (model prog w) A env X (.ref x) s := by
  obtain ⟨outer, rfl, hfl⟩ := hF
  unfold cameBackBy
  obtain ⟨oe, vs, y1, y2, y3, y4, y5⟩ := id hX.there
  have hf1 : ∃ T, vs[1]? = some (.ref T) := by
    rcases y5 with ⟨q, _⟩ | ⟨T, oT, ts, z1, _⟩
    · exact absurd trivial q
    · exact ⟨T, z1⟩
  obtain ⟨T, hT⟩ := hf1
  refine wpAny_bind (wpAny_field y1 y3 hT ?_)
  rw [if_neg (show ¬ ((Value.ref T == Value.none) = true) from by simp)]
  refine setFlight_ok (env := env) (outer := outer) _ hX fun h₂ t₂ X₂ => ?_
  exact hE h₂ (ht.trans t₂ fun b q => q.1) (FunFrames.tr hff t₂ fun b hb q => q.2 hb) X₂
theorem folded_ok {it : Expr} (h : isSetE it = false) (x : Value) : foldedSetIterable it env x = pure x := by
  cases it <;> first | rfl | exact noTrue h.symm
theorem ExcAt.free {P : Addr → Prop} {x : Addr} {h : Heap} (X : ExcAt P True x h) : ExcAt P False x h := by
  obtain ⟨a, oe, vs, y1, y2, y3, y4, y5⟩ := X
  refine ⟨a, oe, vs, y1, y2, y3, y4, .inr ?_⟩
  rcases y5 with ⟨q, _⟩ | q
  · exact absurd trivial q
  · exact q
inductive FI (prog : Program) (w : World) (hB : Heap) (F : List Env) (sc : Scope) (L : Addr) (R : GM) (I : Addr) (W : Nat → Heap → Prop) (f : List PV → Loc → Rs (Outc × Loc)) (xs : List PV) (r : Rs (Outc × Loc)) (s : Shared) (G₁ : GM) (k : Nat) (s' : Shared) : Prop
  | mk (i : Nat) (G' : GM) (σ' : Loc) (m' : Str → Option Value) (h' : Heap) (tk : Nat) (o' : Obj) (e1 : s' = { s with heap := h', toks := tk }) (hi : i ≤ xs.length) (hk : k = xs.length - i) (S' : St prog w hB F sc L (upd R I o') (upd R I o') G' σ' m' h') (g' : Gr (upd R I o') G₁ G') (hW : W i h') (hr : r = f (xs.drop i) σ')
theorem for_ok (B : BaseOk C hB gA bA mg mb) (H : SEx prog w C hB gA bA E n) (Hs : SSs prog w C hB gA bA E n) (ha : Amb C A n F) (he : EnvOk gA bA env sc L) (S : St prog w hB F sc L R R G σ m s.heap) (hRL : R L = none)
    (hF : C.exc = true → ∃ outer, F = env :: outer ∧ env.frame = some L) {t it : Expr} {b : List Stmt} {pos : Pos} (hse : isSetE it = false) {r : Rs (Outc × Loc)} (hr : r = (iterE E sc it σ).bind fun p => forL t (E.ss sc b) p.1 p.2) (hns : r ≠ .stuck) :
    wpAny (model prog w) A (exec (.For t it b [] pos) env) (PS prog w hB F sc L R G s r) (PX C F R s r) s := by
  refine wpAny_For (iterE_ok B H ha he S (bnN hr hns) ?_ fun e s' x => x.cast0 (bnE hr)) (folded_ok hse)
  intro xs σ₁ G₁ h₁ tk o fp P W e1 S₁ g₁ hof IO hW0 hfp hP
  replace hr : r = forL t (E.ss sc b) xs σ₁ := by rw [hr, e1]; rfl
  obtain ⟨I, hI⟩ : ∃ I, I = h₁.objs.size := ⟨_, rfl⟩
  rw [← hI] at IO hfp ⊢
  have hIn : h₁.get? I = none := by rw [hI]; exact Heap.get?_none_of_le (Nat.le_refl _)
  have hRI : R I = none := S₁.rk I hIn
  have hGI : G₁ I = none := S₁.gin.fresh' hIn
  have hIL : I ≠ L := fun q => by obtain ⟨x, hx⟩ := S₁.L_get; rw [q, hx] at hIn; cases hIn
  have hIfr : I ∉ framesOf F := fun q => by obtain ⟨x, hx⟩ := S₁.frame_get q; rw [hx] at hIn; cases hIn
  have hIo : (h₁.push o).get? I = some o := by rw [hI]; exact Heap.get?_push_size _ hof
  have S₂ : St prog w hB F sc L (upd R I o) (upd R I o) G₁ σ₁ m (h₁.push o) :=
    (S₁.ext (Ext.pushed S₁.gin o)).addI hIo fun x O => by obtain ⟨y, hy⟩ := (S₁.own_get O).1; rw [hy] at hIn; cases hIn
  refine codeAny_forLoop_any (FI prog w hB F sc L R I W (forL t (E.ss sc b)) xs r s G₁) ?_ (xs.length - 0) ⟨0, G₁, σ₁, m, _, tk, o, rfl, Nat.zero_le _, rfl, S₂, Gr.refl .., hW0, hr⟩
  rintro k s' ⟨i, G', σ', m', h', tk', o', rfl, hi, rfl, S', g', hW, hrec⟩
  have hIn' : ∀ x, ¬ Owned σ' m' x I := fun x O => by have := (S'.own x I O).2.2; rw [upd_self] at this; cases this
  have hGI' := g'.notI hGI
  rcases Nat.lt_or_ge i xs.length with hlt | hge
  · -- one more turn
    refine IO.walks.item i _ _ _ hlt hW fun v h₂ tk₂ hPv hW₂ hk₂ => ?_
    obtain ⟨x, hx, hvx⟩ := hP i v hlt hPv
    obtain ⟨o₂, c₂, hIo₂, hc₂, hown₂⟩ := IO.cls (i + 1) h₂ hW₂
    have S₂ : St prog w hB F sc L (upd R I o₂) (upd R I o₂) G' σ' m' h₂ :=
      (((S'.dropI hRI).aside (I := I) (h' := h₂) (fun b y hb e => hk₂ b y (by simpa using hb) e) hRI hGI' hIL hIfr hIn').addI hIo₂ hIn')
    have hdrop : xs.drop i = x :: xs.drop (i + 1) := by
      rw [List.drop_eq_getElem_cons hlt]
      rw [List.getElem?_eq_getElem hlt] at hx
      injection hx with hx
      rw [hx]
    rw [hdrop] at hrec
    replace hrec : r = (Rs.of (assignP t x σ')).bind fun σ₁ => (E.ss sc b σ₁).bind fun p => match p.1 with
      | .next => forL t (E.ss sc b) (xs.drop (i + 1)) p.2
      | .ret w => .ok (.ret w, p.2) := hrec
    obtain ⟨σ₂, hσ₂, hrec⟩ := bnF hrec hns
    refine owned_ok (s := { s with heap := h₂, toks := tk₂ }) hIo₂ hc₂ hown₂ t v ?_
    have hKL : upd R I o₂ L = none := by rw [upd_ne (Ne.symm hIL)]; exact hRL
    refine assign_ok (s := { s with heap := h₂, toks := tk₂ }) ha he hKL S₂ (hvx.mono g'.1) hσ₂ fun m₃ h₃ tk₃ S₃ k₃ => ?_
    have hW₃ : W (i + 1) h₃ := IO.walks.frame _ _ _ hW₂ fun b hb y e => by
      rcases hfp b hb with rfl | ⟨z, hz⟩
      · exact k₃ _ y hIL e
      · refine k₃ b y (fun q => ?_) e
        have := g'.1 _ _ hz
        rw [q, S₂.gL] at this; cases this
    refine wpAny_mono (Hs (s := { s with heap := h₃, toks := tk₃ }) b ha he S₃ hKL hF (bnN hrec hns)) (fun fl s' x => ?_) fun e s' x => ?_
    · obtain ⟨oc, σ₄, m₄, G₄, h₄, tk₄, e5, rfl, S₄, g₄, hfl⟩ := x
      replace hrec := bnO hrec e5
      have hIo₄ : h₄.get? I = some o₂ := S₄.kept.exact (upd_self ..) hIfr
      have g₅ : Gr (upd R I o₂) G₁ G₄ := g'.reI.trans g₄
      cases oc with
      | next =>
        subst hfl
        refine ⟨xs.length - (i + 1), by (exact (linS [_, _, _, _] [.q 1 (.a (.v 0) (.a (.v 1) (.n 1))) (.v 2), .r 1 (.a (.v 3) (.v 1)) (.v 2)] 1 (.v 0) (.v 3) rfl (Nat.sub_add_cancel (linL [_, _] [.s 1 (.v 0) (.v 1)] 1 (.a (.v 0) (.n 1)) (.v 1) rfl hlt)) (Nat.sub_add_cancel (linL [_, _] [.s 1 (.v 0) (.v 1)] 1 (.v 0) (.v 1) rfl hlt)))), i + 1, G₄, σ₄, m₄, h₄, tk₄, o₂, rfl, hlt, rfl, S₄, g₅, ?_, hrec⟩
        refine IO.walks.frame _ _ _ hW₃ fun b hb y e => ?_
        rcases hfp b hb with rfl | ⟨z, hz⟩
        · have e' : h₃.get? b = some o₂ := S₃.kept.exact (upd_self ..) hIfr
          rw [e'] at e
          injection e with e
          subst e
          exact hIo₄
        · have q3 := S₃.gin _ _ (g'.1 _ _ hz)
          rw [q3] at e
          injection e with e
          subst e
          exact S₄.gin _ _ (g₅.1 _ _ hz)
      | ret p =>
        obtain ⟨v', rfl, hv'⟩ := hfl
        exact ⟨.ret p, σ₄, m₄, G₄, h₄, tk₄, hrec, rfl, S₄.dropI hRI, g₁.trans g₅.dropI, v', rfl, hv'⟩
    · refine noted_ok ha hF x fun hre hexc xa h₄ tk₄ hx ht hff hX => ?_
      subst hx
      have up : ∀ b, upd R I o₂ b = none ∧ b ∉ framesOf F → R b = none ∧ b ∉ framesOf F := fun b q => ⟨(upd_none q.1).2, q.2⟩
      have ht' : ∀ {hh : Heap}, TrR (framesOf F) (upd R I o₂) hh → TrR (framesOf F) R hh := fun t => ⟨fun b y e => t.keep b y (by rw [upd_ne fun q => by subst q; rw [hRI] at e; cases e]; exact e)⟩
      refine cameBack_ok (s := { s with heap := h₄, toks := tk₄ }) (hF hexc) (ht' ht) hff (hX.mono up) fun h₅ t₅ f₅ X₅ => ?_
      exact ⟨bnE hrec hre, hexc, xa, h₅, tk₄, rfl, rfl, t₅, f₅, X₅.free⟩
  · -- the end
    have hie : i = xs.length := Nat.le_antisymm hi hge
    subst hie
    refine IO.walks.done _ _ _ hW fun h₂ tk₂ hk₂ => ?_
    have S₂ : St prog w hB F sc L R R G' σ' m' h₂ := (S'.dropI hRI).aside (I := I) (h' := h₂) (fun b y hb e => hk₂ b y (by simpa using hb) e) hRI hGI' hIL hIfr hIn'
    rw [List.drop_length] at hrec
    exact wpAny_pure ⟨.next, σ', m', G', h₂, tk₂, hrec, rfl, S₂, g₁.trans g'.dropI, rfl⟩
end
end Mine
set_option maxRecDepth 100000
set_option linter.unusedVariables false
set_option linter.unusedSimpArgs false
namespace Mine
open PySem PyProof.Rows PySem.W
section
variable {prog : Program} {w : World} {A : Around} {Rr : Result → Shared → Prop} {s : Shared}
theorem codeAny_compLoop_any {elt target iter : Expr} {scope : Scope} {pos : Pos} {it acc : Value} {env : Env} (Inv : Nat → Shared → Prop)
    (turn : ∀ n s, Inv n s → wpAny (model prog w) A (pyNext it) (fun r s₁ => match r with
      | none => Rr (.ok .next) s₁
      | some v => wpAny (model prog w) A (letOwnedTupleGo target it v) (fun _ s₁' => wpAny (model prog w) A (assign target env v) (fun _ s₂ => wpAny (model prog w) A (eval elt env) (fun x s₃ =>
          wpAny (model prog w) A (call (.builtin "list.append") [acc, x]) (fun _ s₄ => ∃ m, m < n ∧ Inv m s₄) (fun _ _ => False) s₃)
          (fun _ _ => False) s₂) (fun _ _ => False) s₁') (fun _ _ => False) s₁) (fun _ _ => False) s)
    (n : Nat) (h : Inv n s) :
    codeAny (model prog w) A (.compLoop (.ListComp elt [⟨target, iter, [], 0⟩] scope pos) 0 it acc env) Rr s := by
  refine kcp_loop Inv (fun n s hI => wpAny_mono (turn n s hI) (fun r s₁ h₁ => ?_) fun _ _ q => q.elim) n h
  cases r with
  | none => exact h₁
  | some v => exact wpAny_mono h₁ (fun _ _ h₂ => wpAny_mono h₂ (fun _ _ h₃ => wpAny_mono h₃ (fun _ _ h₄ => wpAny_mono h₄ (fun _ _ x => x) fun _ _ q => q.elim) fun _ _ q => q.elim) fun _ _ q => q.elim) fun _ _ q => q.elim
end
section
variable {prog : Program} {w : World} {C : Ctx} {hB : Heap} {gA bA : Addr} {mg mb : Str → Option Value} {E : Ev} {n : Nat}
variable {A : Around} {F : List Env} {sc csc : Scope} {L L' : Addr} {env cenv : Env} {R K G G₁ : GM} {σ σ₀ : Loc} {m m₀ : Str → Option Value} {s : Shared} {h₁ : Heap} {I D : Addr} {Rr : Result → Shared → Prop}
inductive CI (prog : Program) (w : World) (hB : Heap) (F : List Env) (csc : Scope) (L' : Addr) (R : GM) (I D : Addr) (W : Nat → Heap → Prop) (f : List PV → Loc → Rs (List PV)) (xs ws : List PV) (s : Shared) (G₁ : GM) (k : Nat) (s' : Shared) : Prop
  | mk (i : Nat) (G' : GM) (σ' : Loc) (m' : Str → Option Value) (h' : Heap) (tk : Nat) (oI oD : Obj) (vs : List Value) (done rest : List PV) (n : Nat) (e1 : s' = { s with heap := h', toks := tk }) (hi : i ≤ xs.length) (hk : k = xs.length - i)
      (S' : St prog w hB F csc L' (upd (upd R I oI) D oD) (upd (upd R I oI) D oD) G' σ' m' h') (g' : Gr (upd (upd R I oI) D oD) G₁ G') (hW : W i h') (c : oD.cls = .type "list") (d : oD.dict = none) (q : oD.data = .seq (vs : List Value).toArray n) (hv : RepL G' vs done)
      (hc : f (xs.drop i) σ' = .ok rest) (hw : ws = done ++ rest)
theorem comp_core (H : SEx prog w C hB gA bA E n) (ha : Amb C A n F) (hec : EnvOk gA bA cenv csc L') {fp : List Addr} {P : Nat → Value → Prop} {W : Nat → Heap → Prop} {xs ws : List PV} {t elt iter : Expr} {pos : Pos}
    (hI : h₁.get? I = none) (hD : h₁.get? D = none) (hL' : h₁.get? L' = none) (hID : I ≠ D) (hIL : I ≠ L') (hDL : D ≠ L') (hIfr : I ∉ framesOf F) (hDfr : D ∉ framesOf F) (hGI : G₁ I = none) (hGD : G₁ D = none)
    (IO : ItOk prog w A I fp xs.length P W) (hfp : ∀ b ∈ fp, b = I ∨ ∃ o, G₁ b = some o) (hP : ∀ i u, i < xs.length → P i u → ∃ x, xs[i]? = some x ∧ Rep G₁ u x)
    (hc : compL t (E.ex csc elt) xs σ₀ = .ok ws) (hl : ws.length ≤ lim)
    (S : St prog w hB F csc L' h₁.get? h₁.get? G₁ σ₀ m₀ s.heap) (hW : W 0 s.heap) (hA : PlainL s.heap D #[]) (hno : ∀ x a, ¬ Owned σ₀ m₀ x a)
    (hR : ∀ h' tk G' m' vs, h'.Ns L' m' → TrR (framesOf F) h₁.get? h' → h'.FunFrames noHeap F → GIn G' h' → Gr h₁.get? G₁ G' → G' L' = none → G' D = none → PlainL h' D vs.toArray → RepL G' vs ws → Rr (.ok .next) { s with heap := h', toks := tk }) :
    codeAny (model prog w) A (.compLoop (.ListComp elt [⟨t, iter, [], 0⟩] csc pos) 0 (.ref I) (.ref D) cenv) Rr s := by
  have hUD : ∀ {oI : Obj}, upd h₁.get? I oI D = none := by intro oI; rw [upd_ne (Ne.symm hID)]; exact hD
  obtain ⟨oI, cI, hoI, _, _⟩ := IO.cls 0 s.heap hW
  obtain ⟨oD, nD, hoD, hcD, hdD, hsD⟩ := hA
  have S₀ : St prog w hB F csc L' (upd (upd h₁.get? I oI) D oD) (upd (upd h₁.get? I oI) D oD) G₁ σ₀ m₀ s.heap := (S.addI hoI fun x => hno x I).addI hoD fun x => hno x D
  refine codeAny_compLoop_any (CI prog w hB F csc L' h₁.get? I D W (compL t (E.ex csc elt)) xs ws s G₁) ?_ (xs.length - 0)
    ⟨0, G₁, σ₀, m₀, s.heap, s.toks, oI, oD, [], [], ws, nD, rfl, Nat.zero_le _, rfl, S₀, Gr.refl .., hW, hcD, hdD, by simpa using hsD, .nil, hc, rfl⟩
  rintro k s' ⟨i, G', σ', m', h', tk, oI, oD, vs, done, rest, nn, rfl, hi, rfl, S', g', hW', hcD', hdD', hsD', hvs, hcomp, hws⟩
  have own : ∀ {x a}, Owned σ' m' x a → a ≠ I ∧ a ≠ D := fun {x a} O => by
    have h1 := upd_none (S'.own x a O).2.2
    exact ⟨(upd_none h1.2).1, h1.1⟩
  have hGD' : G' D = none := g'.notI hGD
  have hGI' : G' I = none := g'.dropI.notI hGI
  have hDo : h'.get? D = some oD := S'.kept.exact (upd_self ..) hDfr
  have S1 : St prog w hB F csc L' h₁.get? h₁.get? G' σ' m' h' := (S'.dropI hUD).dropI hI
  rcases Nat.lt_or_ge i xs.length with hlt | hge
  · refine IO.walks.item i _ _ _ hlt hW' fun v h₂ tk₂ hPv hW₂ hk₂ => ?_
    obtain ⟨x, hx, hvx⟩ := hP i v hlt hPv
    obtain ⟨o₂, c₂, hIo₂, hc₂, hown₂⟩ := IO.cls (i + 1) h₂ hW₂
    have hDo₂ : h₂.get? D = some oD := hk₂ D oD (by simpa using Ne.symm hID) hDo
    have S₂ : St prog w hB F csc L' (upd (upd h₁.get? I o₂) D oD) (upd (upd h₁.get? I o₂) D oD) G' σ' m' h₂ :=
      ((S1.aside (I := I) (h' := h₂) (fun b y hb e => hk₂ b y (by simpa using hb) e) hI hGI' hIL hIfr fun x O => (own O).1 rfl).addI hIo₂ fun x O => (own O).1 rfl).addI hDo₂ fun x O => (own O).2 rfl
    have hdrop : xs.drop i = x :: xs.drop (i + 1) := by
      rw [List.drop_eq_getElem_cons hlt]
      rw [List.getElem?_eq_getElem hlt] at hx
      injection hx with hx
      rw [hx]
    rw [hdrop] at hcomp
    have e3 : compL t (E.ex csc elt) (x :: xs.drop (i + 1)) σ' = (Rs.of (assignP t x σ')).bind fun σ₁ => match E.ex csc elt σ₁ with
      | .ok p => (compL t (E.ex csc elt) (xs.drop (i + 1)) p.2).bind fun ws => .ok (p.1 :: ws)
      | _ => .stuck := rfl
    rw [e3] at hcomp
    obtain ⟨σ₂, hσ₂, e4⟩ := Rs.of_ns (by rw [hcomp]; exact fun q => by cases q)
    rw [e4] at hcomp
    cases hel : E.ex csc elt σ₂ with
    | stuck => rw [hel] at hcomp; cases hcomp
    | exc => rw [hel] at hcomp; cases hcomp
    | ok pp =>
      obtain ⟨p, σ₃⟩ := pp
      rw [hel] at hcomp
      simp only at hcomp
      cases hrest : compL t (E.ex csc elt) (xs.drop (i + 1)) σ₃ with
      | stuck => rw [hrest] at hcomp; cases hcomp
      | exc => rw [hrest] at hcomp; cases hcomp
      | ok rest' =>
        rw [hrest] at hcomp
        simp only [Rs.ok_bind, Rs.ok.injEq] at hcomp
        refine owned_ok (s := { s with heap := h₂, toks := tk₂ }) hIo₂ hc₂ hown₂ t v ?_
        have hKL : upd (upd h₁.get? I o₂) D oD L' = none := by rw [upd_ne (Ne.symm hDL), upd_ne (Ne.symm hIL)]; exact hL'
        refine assign_ok (s := { s with heap := h₂, toks := tk₂ }) ha hec hKL S₂ (hvx.mono g'.1) hσ₂ fun m₃ h₃ tk₃ S₃ k₃ => ?_
        refine runE (s := { s with heap := h₃, toks := tk₃ }) (H elt ha hec (s := { s with heap := h₃, toks := tk₃ }) (S₃.rekeep (TrR.refl _ h₃)) (by rw [hel]; exact fun q => by cases q)) (fun p' σ' v' G₄ h₄ tk₄ e5 S₄ g₄ hv' => ?_)
          fun e s' x => by obtain ⟨q, _⟩ := x; rw [hel] at q; cases q
        rw [hel] at e5
        cases e5
        have S₅ := S₄.rekeep (S₃.kept.trans0 S₄.kept)
        have hDo₄ : h₄.get? D = some oD := S₅.kept.exact (upd_self ..) hDfr
        have hIo₄ : h₄.get? I = some o₂ := S₅.kept.exact (by rw [upd_ne hID]; exact upd_self ..) hIfr
        have g₅ : Gr (upd (upd h₁.get? I o₂) D oD) G₁ G₄ := by
          refine Gr.trans ⟨g'.1, fun a x e => (g'.2 a x e).imp id fun q => ?_⟩ g₄
          have q1 := upd_none q
          have q2 := upd_none q1.2
          rw [upd_ne q1.1, upd_ne q2.1]; exact q2.2
        have own₄ : ∀ {x a}, Owned σ₃ m₃ x a → a ≠ I ∧ a ≠ D := fun {x a} O => by
          have h1 := upd_none (S₅.own x a O).2.2
          exact ⟨(upd_none h1.2).1, h1.1⟩
        have hlen : vs.length = done.length := hvs.length
        refine list_append_plainL (s := { s with heap := h₄, toks := tk₄ }) (its := vs.toArray) ⟨oD, nn, hDo₄, hcD', hdD', hsD'⟩ (fun h₆ hP₆ hs₆ => ?_) ?_
        · obtain ⟨oD₆, n₆, hDo₆, hcD₆, hdD₆, hsD₆⟩ := hP₆
          have hIo₆ : h₆.get? I = some o₂ := (hs₆.2 I hID).trans hIo₄
          have S₆ : St prog w hB F csc L' (upd (upd h₁.get? I o₂) D oD₆) (upd (upd h₁.get? I o₂) D oD₆) G₄ σ₃ m₃ h₆ :=
            ((S₅.dropI hUD).aside (I := D) (h' := h₆) (fun b y hb e => (hs₆.2 b hb).trans e) hUD (g₅.notI hGD) hDL hDfr fun x O => (own₄ O).2 rfl).addI hDo₆ fun x O => (own₄ O).2 rfl
          refine ⟨xs.length - (i + 1), by (exact (linS [_, _, _, _] [.q 1 (.a (.v 0) (.a (.v 1) (.n 1))) (.v 2), .r 1 (.a (.v 3) (.v 1)) (.v 2)] 1 (.v 0) (.v 3) rfl (Nat.sub_add_cancel (linL [_, _] [.s 1 (.v 0) (.v 1)] 1 (.a (.v 0) (.n 1)) (.v 1) rfl hlt)) (Nat.sub_add_cancel (linL [_, _] [.s 1 (.v 0) (.v 1)] 1 (.v 0) (.v 1) rfl hlt)))), i + 1, G₄, σ₃, m₃, h₆, tk₄, o₂, oD₆, vs ++ [v'], done ++ [p], rest', n₆, rfl, hlt, rfl, S₆, g₅.reI, ?_, hcD₆, hdD₆, by rw [hsD₆]; simp, (hvs.mono g₄.1).append (.cons hv' .nil), hrest, ?_⟩
          · refine IO.walks.frame _ _ _ hW₂ fun b hb y e => ?_
            rcases hfp b hb with rfl | ⟨z, hz⟩
            · rw [hIo₂] at e; injection e with e; subst e; exact hIo₆
            · have q2 := S₂.gin _ _ (g'.1 _ _ hz)
              rw [q2] at e; injection e with e; subst e
              exact S₆.gin _ _ (g₅.1 _ _ hz)
          · rw [hws, ← hcomp]; simp
        · rw [List.size_toArray, hlen, ← lim_eq]
          have : ws.length = done.length + rest.length := by rw [hws, List.length_append]
          (exact (linL [_, _, _, _] [.l 1 (.v 0) (.v 1), .r 1 (.v 0) (.a (.v 2) (.v 3))] 1 (.v 2) (.v 1) rfl hl this))
  · have hie : i = xs.length := Nat.le_antisymm hi hge
    subst hie
    refine IO.walks.done _ _ _ hW' fun h₂ tk₂ hk₂ => ?_
    have S₂ := S1.aside (I := I) (h' := h₂) (fun b y hb e => hk₂ b y (by simpa using hb) e) hI hGI' hIL hIfr fun x O => (own O).1 rfl
    rw [List.drop_length] at hcomp
    cases hcomp
    rw [List.append_nil] at hws
    subst hws
    exact hR h₂ tk₂ G' m' vs S₂.ns S₂.kept S₂.ff S₂.gin g'.dropI.dropI S₂.gL hGD' ⟨oD, nn, hk₂ D oD (by simpa using Ne.symm hID) hDo, hcD', hdD', hsD'⟩ hvs
end
end Mine
set_option maxRecDepth 100000
set_option linter.unusedVariables false
set_option linter.unusedSimpArgs false
namespace Mine
open PySem PyProof.Rows PySem.W
theorem compL_ne_exc (t : Expr) (elt : Loc → Rs (PV × Loc)) : ∀ (xs : List PV) (σ : Loc), compL t elt xs σ ≠ .exc
  | [], _ => fun q => by cases q
  | x :: xs, σ => by
    intro q
    have e : compL t elt (x :: xs) σ = (Rs.of (assignP t x σ)).bind fun σ₁ => match elt σ₁ with
      | .ok p => (compL t elt xs p.2).bind fun ws => .ok (p.1 :: ws)
      | _ => .stuck := rfl
    rw [e] at q
    cases ha : assignP t x σ with
    | none => rw [ha] at q; cases q
    | some σ₁ =>
      rw [ha] at q
      simp only [Rs.of, Rs.ok_bind] at q
      cases he : elt σ₁ with
      | stuck => rw [he] at q; cases q
      | exc => rw [he] at q; cases q
      | ok p =>
        rw [he] at q
        simp only at q
        cases hr : compL t elt xs p.2 with
        | stuck => rw [hr] at q; cases q
        | exc => exact compL_ne_exc t elt xs p.2 hr
        | ok ws => rw [hr] at q; cases q
section
variable {prog : Program} {w : World} {C : Ctx} {hB : Heap} {gA bA : Addr} {mg mb : Str → Option Value} {E : Ev} {n : Nat}
variable {A : Around} {F : List Env} {sc csc : Scope} {L : Addr} {env : Env} {R K G : GM} {σ : Loc} {m : Str → Option Value} {s : Shared}
noncomputable def compR (E : Ev) (sc : Scope) (elt t it : Expr) (csc : Scope) (σ : Loc) : Rs (PV × Loc) := (E.ex sc it σ).bind fun p => match p.1 with
  | .list xs => (compL t (E.ex csc elt) xs (freshLoc csc)).bind fun ws => if ws.length ≤ lim then .ok (.list ws, p.2) else .stuck
  | _ => .stuck
theorem compE_form {elt : Expr} {gens : List Comprehension} (h : compE E sc elt gens csc σ ≠ .stuck) : ∃ t it, gens = [⟨t, it, [], 0⟩] ∧ compScope csc = true ∧ isSetE it = false ∧ compE E sc elt gens csc σ = compR E sc elt t it csc σ := by
  rcases gens with _ | ⟨⟨t, it, ifs, a⟩, gr⟩
  · exact absurd rfl h
  rcases ifs with _ | ⟨_, _⟩
  rotate_left
  · exact absurd rfl h
  rcases gr with _ | ⟨_, _⟩
  rotate_left
  · exact absurd rfl h
  have e0 : compE E sc elt [⟨t, it, [], a⟩] csc σ = if a == 0 && compScope csc && !isSetE it then compR E sc elt t it csc σ else .stuck := rfl
  by_cases hc : (a == 0 && compScope csc && !isSetE it) = true
  · have hc1 := Bool.and_eq_true_iff.mp hc
    have hc2 := Bool.and_eq_true_iff.mp hc1.1
    have h0 : a = 0 := eq_of_beq hc2.1
    subst h0
    exact ⟨t, it, rfl, hc2.2, (Bool.not_eq_true' _).mp hc1.2, e0.trans (if_pos hc)⟩
  · exact absurd (e0.trans (if_neg hc)) h
theorem compScope_local (h : compScope csc = true) : (∀ x ∈ csc.names, x.2 = .local) ∧ csc.kind = .function ∧ csc.names.lookup (Str.ofString "__debug__") = none := by
  unfold compScope at h
  simp only [Bool.and_eq_true, List.all_eq_true] at h
  exact ⟨fun x hx => eq_of_beq (h.2 x hx), eq_of_beq h.1.1.1.1, by simpa using h.1.2⟩
theorem lookup_local {l : List (Str × NameKind)} (h : ∀ x ∈ l, x.2 = .local) {y : Str} (hy : ∃ p ∈ l, p.1 = y) : l.lookup y = some .local := by
  induction l with
  | nil => obtain ⟨p, hp, _⟩ := hy; cases hp
  | cons q r ih =>
    obtain ⟨z, k⟩ := q
    rw [List.lookup_cons]
    by_cases hz : (y == z) = true
    · simp only [hz]; rw [show k = .local from h (z, k) (.head _)]
    · have hz' : (y == z) = false := by simpa using hz
      simp only [hz']
      refine ih (fun x hx => h x (.tail _ hx)) ?_
      obtain ⟨p, hp, e⟩ := hy
      rcases List.mem_cons.mp hp with rfl | hp
      · exact absurd (by simpa using e.symm) hz
      · exact ⟨p, hp, e⟩
theorem comp_pre (H : SEx prog w C hB gA bA E n) (ha : Amb C A n F) (he : EnvOk gA bA env sc L) (S : St prog w hB F sc L R K G σ m s.heap) {t it elt : Expr} {pos : Pos} (hcs : compScope csc = true)
    (hns : compR E sc elt t it csc σ ≠ .stuck) {Rr : Env → Value → Result → Shared → Prop} {X : Value → Shared → Prop} (hX : ∀ e s', PX C F K s (compR E sc elt t it csc σ) e s' → X e s')
    (hR : ∀ cenv D ws σ₁ G₂ m' h' tk, compR E sc elt t it csc σ = .ok (.list ws, σ₁) → h'.Ns cenv.locals m' → St prog w hB F sc L R K G₂ σ₁ m h' → Gr R G G₂ → Rep G₂ (.ref D) (.list ws) → K cenv.locals = none → R cenv.locals = none → G₂ cenv.locals = none →
      cenv.locals ≠ L → cenv.locals ∉ framesOf F → (∀ x, ¬ Owned σ₁ m x cenv.locals) → Rr cenv (.ref D) (.ok .next) { s with heap := h', toks := tk }) :
    wpAny (model prog w) A (eval it env) (fun x s₁ => wpAny (model prog w) A (pyIter x) (fun itv s₂ => wpAny (model prog w) A (newList []) (fun acc s₃ =>
      wpAny (model prog w) A (newFunctionEnv csc env.globals [] [] env.qual none .none (some env)) (fun cenv s₄ =>
        codeAny (model prog w) A (.compStart (.ListComp elt [⟨t, it, [], 0⟩] csc pos) 0 itv acc { cenv with scope := csc }) (Rr cenv acc) s₄) X s₃) X s₂) X s₁) X s := by
  obtain ⟨hloc, hkind, hdbg⟩ := compScope_local hcs
  obtain ⟨y, hy⟩ : ∃ y, y = compR E sc elt t it csc σ := ⟨_, rfl⟩
  rw [← hy] at hns hX hR
  unfold compR at hy
  refine runE (H it ha he S (bnN hy hns)) (fun p σ₁ v G₁ h₁ tk e1 S₁ g₁ hv => ?_) fun e s' x => hX e s' (x.cast0 (bnE hy))
  replace hy := bnO hy e1
  cases p with
  | list xs =>
    replace hy : y = (compL t (E.ex csc elt) xs (freshLoc csc)).bind fun ws => if ws.length ≤ lim then .ok (.list ws, σ₁) else .stuck := hy
    cases hc : compL t (E.ex csc elt) xs (freshLoc csc) with
    | stuck => rw [hc] at hy; exact absurd hy hns
    | exc => exact (compL_ne_exc _ _ _ _ hc).elim
    | ok ws =>
      replace hy := bnO hy hc
      by_cases hl : ws.length ≤ lim
      · replace hy := hy.trans (if_pos hl)
        refine iter_ok ha (s := { s with heap := h₁, toks := tk }) S₁.gin hv rfl fun o fp P W hof IO hW hfp hP => ?_
        show wpAny _ A (newList []) _ _ _
        refine wpAny_newObj_type ?_ (by show 0 ≤ sizeLine; exact Nat.zero_le _)
        have hI : h₁.get? h₁.objs.size = none := Heap.get?_none_of_le (Nat.le_refl _)
        obtain ⟨h₂, e₂⟩ : ∃ h₂, h₂ = h₁.push o := ⟨_, rfl⟩
        have k₂ : ∀ b x, h₁.get? b = some x → h₂.get? b = some x := fun b x e => e₂ ▸ Heap.get?_push_of_some _ e
        have sz₂ : h₂.objs.size = h₁.objs.size + 1 := by rw [e₂]; exact Heap.size_push ..
        show wpAny _ A _ _ X { s with heap := (h₁.push o).push { cls := .type "list", data := .seq #[] }, toks := tk }
        rw [← e₂]
        obtain ⟨h₃, e₃⟩ : ∃ h₃, h₃ = h₂.push { cls := .type "list", data := .seq #[] } := ⟨_, rfl⟩
        have k₃ : ∀ b x, h₂.get? b = some x → h₃.get? b = some x := fun b x e => e₃ ▸ Heap.get?_push_of_some _ e
        have sz₃ : h₃.objs.size = h₁.objs.size + 1 + 1 := by rw [e₃, ← sz₂]; exact Heap.size_push ..
        rw [← e₃]
        refine wpAny_newFunctionEnv (s := { s with heap := h₃, toks := tk }) (fun x hx q => by rw [hloc x hx] at q; cases q) (fun x hx => by cases hx) ?_ hkind
        intro h₄ ns₄ sb₄
        change h₄.Ns h₃.objs.size _ at ns₄
        change Heap.SameBut h₃.objs.size (h₃.push { cls := .type "dict", data := .dict #[] }) h₄ at sb₄
        have k₄ : ∀ b x, h₃.get? b = some x → h₄.get? b = some x := fun b x e => (sb₄.2 b (Nat.ne_of_lt (Heap.lt_size e))).trans (Heap.get?_push_of_some _ e)
        have k14 : ∀ b x, h₁.get? b = some x → h₄.get? b = some x := fun b x e => k₄ b x (k₃ b x (k₂ b x e))
        have hD : h₁.get? h₂.objs.size = none := Heap.get?_none_of_le (by (exact (linL [_, _] [.r 1 (.v 0) (.a (.v 1) (.n 1))] 1 (.v 1) (.v 0) rfl sz₂)))
        have hL' : h₁.get? h₃.objs.size = none := Heap.get?_none_of_le (by (exact (linL [_, _] [.r 1 (.v 0) (.a (.a (.v 1) (.n 1)) (.n 1))] 1 (.v 1) (.v 0) rfl sz₃)))
        have nfr : ∀ {b : Addr}, h₁.get? b = none → b ∉ framesOf F := fun hb q => by obtain ⟨y, hy⟩ := S₁.frame_get q; rw [hy] at hb; cases hb
        have Sin : St prog w hB F csc h₃.objs.size h₁.get? h₁.get? G₁ (freshLoc csc) (fun x => ([] : List (Str × Value)).reverse.lookup x) h₄ := by
          refine ⟨ns₄, S₁.gin.keeps k14, .of_tr (Tr.of_keeps k14), fun a ha => kts_none k14 ha, S₁.base, FunFrames.tr S₁.ff (Tr.of_keeps (fr := []) (own := noOwn) k14) fun _ _ x => x, S₁.gin.fresh' hL', S₁.gfr, fun x hx => ?_, fun x sl hx => ?_, ?_, ?_⟩
          · obtain ⟨sl, hsl⟩ := Option.isSome_iff_exists.mp hx
            obtain ⟨_, p, hp1, hp2, _⟩ := freshLoc_get hsl
            exact lookup_local hloc ⟨p, hp1, hp2⟩
          · rw [(freshLoc_get hx).1]; trivial
          · rintro x a ⟨sl, q1, q2, _⟩; rw [(freshLoc_get q1).1] at q2; cases q2
          · rintro x y a ⟨sl, q1, q2, _⟩; rw [(freshLoc_get q1).1] at q2; cases q2
        have core : codeAny (model prog w) A (.compLoop (.ListComp elt [⟨t, it, [], 0⟩] csc pos) 0 (.ref h₁.objs.size) (.ref h₂.objs.size) { newEnv csc h₃.objs.size env.globals [] env.qual none .none (some env) 0 with scope := csc })
            (Rr (newEnv csc h₃.objs.size env.globals [] env.qual none .none (some env) 0) (.ref h₂.objs.size)) { s with heap := h₄, toks := tk } := by
          have hec : EnvOk gA bA { newEnv csc h₃.objs.size env.globals [] env.qual none .none (some env) 0 with scope := csc } csc h₃.objs.size := ⟨rfl, hkind, hdbg, rfl, he.glob, he.bi⟩
          refine comp_core (h₁ := h₁) (L' := h₃.objs.size) (s := { s with heap := h₄, toks := tk }) H ha hec hI hD hL' (Nat.ne_of_lt (by (exact (linS [_, _] [.r 1 (.v 0) (.a (.v 1) (.n 1))] 1 (.v 1) (.v 0) rfl sz₂)))) (Nat.ne_of_lt (by (exact (linS [_, _] [.r 1 (.v 0) (.a (.a (.v 1) (.n 1)) (.n 1))] 1 (.v 1) (.v 0) rfl sz₃)))) (Nat.ne_of_lt (by (exact (linS [_, _, _] [.q 1 (.v 0) (.a (.v 1) (.n 1)), .r 1 (.v 2) (.a (.a (.v 1) (.n 1)) (.n 1))] 1 (.v 0) (.v 2) rfl sz₂ sz₃)))) (nfr hI) (nfr hD) (S₁.gin.fresh' hI) (S₁.gin.fresh' hD) IO hfp hP hc hl Sin ?_ ?_ ?_ ?_
          · refine IO.walks.frame _ _ _ hW fun b hb y e => ?_
            rw [← e₂] at e
            exact k₄ _ _ (k₃ _ _ e)
          · exact ⟨_, 0, k₄ _ _ (by rw [e₃]; exact Heap.get?_push_size _ rfl), rfl, rfl, rfl⟩
          · rintro x a ⟨sl, q1, q2, _⟩; rw [(freshLoc_get q1).1] at q2; cases q2
          · intro h' tk' G' m' vs hns' ht hff hg hgr hGL hGD hPl hvs
            obtain ⟨oD, nD, hoD, hcD, hdD, hsD⟩ := hPl
            have gs : GSub G₁ (upd G' h₂.objs.size oD) := hgr.1.trans (upd_sub hGD)
            have gn : ∀ a x, upd G' h₂.objs.size oD a = some x → G₁ a = some x ∨ h₁.get? a = none := fun a x e => by
              by_cases q : a = h₂.objs.size
              · exact .inr (q ▸ hD)
              · rw [upd_ne q] at e; exact hgr.2 a x e
            have S₂ : St prog w hB F sc L R K (upd G' h₂.objs.size oD) σ₁ m h' := S₁.tr ht (upd_in hg hoD) gs gn
            refine hR (newEnv csc h₃.objs.size env.globals [] env.qual none .none (some env) 0) h₂.objs.size ws σ₁ _ m' h' tk' hy hns' S₂ (g₁.trans ⟨gs, fun a x e => (gn a x e).imp id (S₁.rk a)⟩) ?_ (S₁.kept.fresh hL') (S₁.rk _ hL') ?_ ?_ (nfr hL') ?_
            · exact .list (upd_self ..) hcD hdD hsD (hvs.mono (upd_sub hGD))
            · show upd G' h₂.objs.size oD h₃.objs.size = none
              have hne : h₃.objs.size ≠ h₂.objs.size := Nat.ne_of_gt (by (exact (linS [_, _, _] [.q 1 (.v 0) (.a (.v 1) (.n 1)), .r 1 (.v 2) (.a (.a (.v 1) (.n 1)) (.n 1))] 1 (.v 0) (.v 2) rfl sz₂ sz₃)))
              rw [upd_ne hne]; exact hGL
            · intro q
              obtain ⟨y, hy⟩ := S₁.L_get
              rw [← q] at hy
              change h₁.get? h₃.objs.size = some y at hy
              rw [hL'] at hy; cases hy
            · intro x O
              obtain ⟨y, hy⟩ := (S₁.own_get O).1
              change h₁.get? h₃.objs.size = some y at hy
              rw [hL'] at hy; cases hy
        exact codeAny_compStart_list core (IO.walks.self 0 _ _ _ (IO.walks.frame _ _ _ hW fun b hb y e => by rw [← e₂] at e; exact k₄ _ _ (k₃ _ _ e)) core)
      · exact absurd (hy.trans (if_neg hl)) hns
  | _ => exact absurd hy hns
theorem comp_step (H : SEx prog w C hB gA bA E n) (ha : Amb C A n F) (he : EnvOk gA bA env sc L) (S : St prog w hB F sc L R K G σ m s.heap) {elt : Expr} {gens : List Comprehension} {pos : Pos}
    (hns : compE E sc elt gens csc σ ≠ .stuck) :
    wpAny (model prog w) A (eval (.ListComp elt gens csc pos) env) (PE prog w hB F sc L R K G m s (compE E sc elt gens csc σ) VR) (PX C F K s (compE E sc elt gens csc σ)) s := by
  obtain ⟨t, it, rfl, hcs, hse, e0⟩ := compE_form hns
  rw [e0] at hns ⊢
  obtain ⟨z, hz⟩ : ∃ z, z = compR E sc elt t it csc σ := ⟨_, rfl⟩
  rw [← hz]
  obtain ⟨hloc, hkind, hdbg⟩ := compScope_local hcs
  refine wpAny_ListComp (fun x hx q => by rw [hloc x hx] at q; cases q) hkind (fun x hx _ => lookup_local hloc ⟨x, hx, rfl⟩) (comp_pre H ha he S hcs hns (Rr := fun cenv acc r s' => ∃ mm, s'.heap.Ns cenv.locals mm ∧ ∀ h', Heap.SameBut cenv.locals s'.heap h' →
            match r with | .ok _ => PE prog w hB F sc L R K G m s z VR acc { s' with heap := h' } | .error x => wpAny (model prog w) A (passOn "comprehension.variables-let-go" x { cenv with scope := csc }) (PE prog w hB F sc L R K G m s z VR) (PX C F K s z) { s' with heap := h' }) (fun _ _ x => x.cast0 hz.trans) ?_) (folded_ok hse)
  intro cenv D ws σ₁ G₂ m' h' tk e1 hns' S₂ g₂ hr hK hR hG hL hfr hown
  refine ⟨m', hns', fun h'' sb => ?_⟩
  have S₃ : St prog w hB F sc L R K G₂ σ₁ m h'' := S₂.asideK (I := cenv.locals) (fun b y hb e => (sb.2 b hb).trans e) hK hR hG hL hfr hown
  exact PE.finR (hz.trans e1) S₃ g₂ hr
theorem swaps_comp {x : Str} {px pos : Pos} {elt : Expr} {gens : List Comprehension} {line : Nat} :
    swapsWith (.ListComp elt gens csc pos) (some (.Name x px)) line env = pure (env.blockKind == .function && env.kindOf x == some .local && px.line == pos.line
      && !(csc.names.any fun (n, k) => n == x && (k == .local || k == .cell))) := rfl
theorem exec_Assign_comp {x : Str} {px pos cpos : Pos} {elt : Expr} {gens : List Comprehension} : exec (.Assign [.Name x px] (.ListComp elt gens csc cpos) pos) env = (do
    standAt pos
    if ← swapsWith (.ListComp elt gens csc cpos) (some (.Name x px)) pos.line env then
      (do let _ ← comprehension (.ListComp elt gens csc cpos) csc env (firstIterPos gens cpos) (newList []) (firstAsync gens) (firstIter gens env) (some (assign (.Name x px) env)) : Sem Unit)
      return .next
    let v ← eval (.ListComp elt gens csc cpos) env
    standAt px
    bindName env x v
    pure .next) := rfl
theorem comp_assign (H : SEx prog w C hB gA bA E n) (ha : Amb C A n F) (he : EnvOk gA bA env sc L) (S : St prog w hB F sc L R R G σ m s.heap) (hRL : R L = none) {x : Str} {px pos cpos : Pos} {elt : Expr} {gens : List Comprehension} {r : Rs (Outc × Loc)}
    (hr : r = (compE E sc elt gens csc σ).bind fun p => match p.2.get x with | some _ => .ok (.next, p.2.set x (.val p.1)) | none => .stuck) (hns : r ≠ .stuck) :
    wpAny (model prog w) A (exec (.Assign [.Name x px] (.ListComp elt gens csc cpos) pos) env) (PS prog w hB F sc L R G s r) (PX C F R s r) s := by
  rw [exec_Assign_comp, swaps_comp]
  refine wpAny_bind (wpAny_standAt (wpAny_bind (wpAny_pure ?_)))
  obtain ⟨b, hb⟩ : ∃ b, b = (env.blockKind == .function && env.kindOf x == some .local && px.line == cpos.line && !(csc.names.any fun (n, k) => n == x && (k == .local || k == .cell))) := ⟨_, rfl⟩
  rw [← hb]
  cases b with
  | false =>
    rw [if_neg (by simp)]
    refine wpAny_bind (runE (comp_step H ha he S (bnN hr hns)) (fun p σ₁ v G₁ h₁ tk e1 S₁ g₁ hv => ?_) fun e s' x => x.cast0 (bnE hr))
    replace hr := bnO hr e1
    dsimp only at hr
    cases hx : σ₁.get x with
    | none => rw [hx] at hr; exact absurd hr hns
    | some sl =>
      rw [hx] at hr
      refine wpAny_bind (wpAny_standAt (wpAny_bind (wpAny_bindName (store_ok (s := { s with heap := h₁, toks := tk }) he S₁ hx fun h' ns' sb => wpAny_pure ?_))))
      exact ⟨.next, _, _, G₁, h', tk + 1, hr, rfl, S₁.storeVal hRL hx ns' sb hv, g₁, rfl⟩
  | true =>
    rw [if_pos rfl]
    have hns' := bnN hr hns
    obtain ⟨t, it, rfl, hcs, hse, e0⟩ := compE_form hns'
    obtain ⟨hloc, hkind, hdbg⟩ := compScope_local hcs
    rw [e0] at hns' hr
    refine wpAny_bind (wpAny_bind (wpAny_mono (Q := fun _ s3 => PS prog w hB F sc L R G s r .next s3) (wpAny_comprehension_use rfl (folded_ok hse) (fun x hx q => by rw [hloc x hx] at q; cases q) hkind (fun x hx _ => lookup_local hloc ⟨x, hx, rfl⟩)
      (comp_pre H ha he S hcs hns' (fun e s' x => x.cast0 (bnE hr)) ?_)) (fun _ s3 x => wpAny_pure (wpAny_pure x)) fun _ _ x => x))
    intro cenv D ws σ₁ G₂ m' h' tk e1 hnsC S₂ g₂ hv hK hR hG hL hfr hown
    replace hr := bnO hr e1
    dsimp only at hr
    cases hx : σ₁.get x with
    | none => rw [hx] at hr; exact absurd hr hns
    | some sl =>
      rw [hx] at hr
      refine wpAny_assign_Name (store_ok (s := { s with heap := h', toks := tk }) he S₂ hx fun h'' ns'' sb => ?_)
      have S₃ := S₂.storeVal hRL hx ns'' sb hv
      refine ⟨m', isNs_slots hnsC fun o e => ⟨o.slots, (sb.2 _ hL).trans e⟩, fun h₃ sb₃ => ?_⟩
      refine ⟨.next, _, _, G₂, h₃, tk + 1, hr, rfl, S₃.aside (I := cenv.locals) (fun b y hb e => (sb₃.2 b hb).trans e) hR hG hL hfr ?_, g₂, rfl⟩
      rintro y ⟨sl', q1, q2, q3⟩
      by_cases hy : y = x
      · subst hy
        rw [Loc.get_set_self hx] at q1
        cases q1; cases q2
      · rw [Loc.get_set_ne hy] at q1
        simp only [if_neg hy] at q3
        exact hown y ⟨sl', q1, q2, q3⟩
end
end Mine
set_option maxRecDepth 100000
set_option linter.unusedVariables false
set_option linter.unusedSimpArgs false
namespace Mine
open PySem PyProof.Rows PySem.W
section
variable {prog : Program} {w : World} {C : Ctx} {hB : Heap} {gA bA : Addr} {mg mb : Str → Option Value} {E : Ev} {n : Nat}
variable {A : Around} {F : List Env} {sc : Scope} {L : Addr} {env : Env} {R K G : GM} {σ : Loc} {m : Str → Option Value} {s : Shared}
theorem swaps_plain {v : Expr} {t : Expr} {line : Nat} (h1 : isComp2 v = false) (h2 : ∀ a b c d, v ≠ .ListComp a b c d) : swapsWith v (some t) line env = pure false := by
  cases v <;> first | rfl | exact absurd rfl (h2 _ _ _ _) | exact noTrue h1.symm
theorem set_plain (H : SEx prog w C hB gA bA E n) (ha : Amb C A n F) (he : EnvOk gA bA env sc L) (S : St prog w hB F sc L R R G σ m s.heap) (hRL : R L = none) {x : Str} {px pos : Pos} {v : Expr}
    (hs : swapsWith v (some (.Name x px)) pos.line env = pure false) {r : Rs (Outc × Loc)} (hr : r = setE E sc x v σ) (hns : r ≠ .stuck) :
    wpAny (model prog w) A (exec (.Assign [.Name x px] v pos) env) (PS prog w hB F sc L R G s r) (PX C F R s r) s := by
  unfold setE at hr
  refine wpAny_Assign_Name (runE (H v ha he S (bnN hr hns)) (fun p σ₁ u G₁ h₁ tk e1 S₁ g₁ hv => ?_) fun e s' x => x.cast0 (bnE hr)) hs
  replace hr := bnO hr e1
  dsimp only at hr
  cases hx : σ₁.get x with
  | none => rw [hx] at hr; exact absurd hr hns
  | some sl =>
    rw [hx] at hr
    exact store_ok (s := { s with heap := h₁, toks := tk }) he S₁ hx fun h' ns' sb => ⟨.next, _, _, G₁, h', tk + 1, hr, rfl, S₁.storeVal hRL hx ns' sb hv, g₁, rfl⟩
theorem St.freshOwn {h : Heap} (S : St prog w hB F sc L R K G σ m h) : h.objs.size ≠ L ∧ h.objs.size ∉ framesOf F ∧ R h.objs.size = none ∧ ∀ y, ¬ Owned σ m y h.objs.size := by
  have hn : h.get? h.objs.size = none := Heap.get?_none_of_le (Nat.le_refl _)
  refine ⟨fun q => ?_, fun q => ?_, S.rk _ hn, fun y O => ?_⟩
  · obtain ⟨o, ho⟩ := S.L_get; rw [← q, hn] at ho; cases ho
  · obtain ⟨o, ho⟩ := S.frame_get q; rw [hn] at ho; cases ho
  · obtain ⟨o, ho⟩ := (S.own_get O).1; rw [hn] at ho; cases ho
theorem set_list (he : EnvOk gA bA env sc L) (S : St prog w hB F sc L R R G σ m s.heap) (hRL : R L = none) {x : Str} {px pos p : Pos} {sl : Slot} (hx : σ.get x = some sl) {X : Value → Shared → Prop} :
    wpAny (model prog w) A (exec (.Assign [.Name x px] (.List [] p) pos) env) (PS prog w hB F sc L R G s (.ok (.next, σ.set x (.own [])))) X s := by
  refine wpAny_Assign_Name (wpAny_List (wpAny_items_nil ⟨Nat.zero_le _, ?_⟩)) rfl
  obtain ⟨f1, f2, f3, f4⟩ := S.freshOwn
  have S₁ := S.ext (Ext.pushed S.gin { cls := .type "list", data := .seq ([] : List Value).toArray })
  refine store_ok (s := { s with heap := s.heap.push { cls := .type "list", data := .seq ([] : List Value).toArray } }) he S₁ hx fun h' ns' sb => ⟨.next, _, _, G, h', s.toks + 1, rfl, rfl, S₁.store hRL hx ns' sb ?_ ?_, Gr.refl .., rfl⟩
  · exact ⟨s.heap.objs.size, _, [], 0, rfl, Heap.get?_push_size _ rfl, rfl, rfl, rfl, .nil, S.gin.fresh⟩
  · intro _ a e
    cases e
    exact ⟨f1, f2, f3, fun y _ => f4 y⟩
theorem set_dict (he : EnvOk gA bA env sc L) (S : St prog w hB F sc L R R G σ m s.heap) (hRL : R L = none) {x : Str} {px pos p : Pos} {sl : Slot} (hx : σ.get x = some sl) {X : Value → Shared → Prop} :
    wpAny (model prog w) A (exec (.Assign [.Name x px] (.Dict [] [] p) pos) env) (PS prog w hB F sc L R G s (.ok (.next, σ.set x (.dict [])))) X s := by
  refine wpAny_Assign_Name (wpAny_Dict_empty ?_) rfl
  obtain ⟨f1, f2, f3, f4⟩ := S.freshOwn
  have S₁ := S.ext (Ext.pushed S.gin { cls := .type "dict", data := .dict #[] })
  refine store_ok (s := { s with heap := s.heap.push { cls := .type "dict", data := .dict #[] } }) he S₁ hx fun h' ns' sb => ⟨.next, _, _, G, h', s.toks + 1, rfl, rfl, S₁.store hRL hx ns' sb ?_ ?_, Gr.refl .., rfl⟩
  · exact ⟨s.heap.objs.size, rfl, DictAt.new s.heap, S.gin.fresh⟩
  · intro _ a e
    cases e
    exact ⟨f1, f2, f3, fun y _ => f4 y⟩
theorem set_tuple (H : SEx prog w C hB gA bA E n) (ha : Amb C A n F) (he : EnvOk gA bA env sc L) (S : St prog w hB F sc L R R G σ m s.heap) (hRL : R L = none) {ts : List Expr} {k : Nat} {p pos : Pos} {v : Expr}
    (h1 : isTup v = false) (h2 : isComp v = false) {r : Rs (Outc × Loc)} (hr : r = (E.ex sc v σ).bind fun q => (Rs.of (assignP (.Tuple ts k p) q.1 q.2)).bind fun σ₂ => .ok (.next, σ₂)) (hns : r ≠ .stuck) :
    wpAny (model prog w) A (exec (.Assign [.Tuple ts k p] v pos) env) (PS prog w hB F sc L R G s r) (PX C F R s r) s := by
  refine Assign_Tuple (runE (H v ha he S (bnN hr hns)) (fun p σ₁ u G₁ h₁ tk e1 S₁ g₁ hv => ?_) fun e s' x => x.cast0 (bnE hr)) ?_ ?_
  · have hr1 := bnO hr e1
    obtain ⟨σ₂, hσ, e2⟩ := bnF hr1 hns
    exact assign_ok (s := { s with heap := h₁, toks := tk }) ha he hRL S₁ hv hσ fun m' h' tk' S' _ => ⟨.next, _, _, G₁, h', tk', e2, rfl, S', g₁, rfl⟩
  · cases v <;> first | rfl | exact noTrue h2.symm
  · cases v <;> first | rfl | exact noTrue h1.symm
theorem dict_set (B : BaseOk C hB gA bA mg mb) (he : EnvOk gA bA env sc L) (S : St prog w hB F sc L R R G σ m s.heap) {x k : Str} {p1 p2 p3 pos : Pos} {v : Expr} (hv : isTrueC v = true) {ks : List (List UInt8)} {b : List UInt8}
    (hx : σ.get x = some (.dict ks)) (hk : σ.get k = some (.val (.bytes b))) (hl : ks.length < lim) {X : Value → Shared → Prop} :
    wpAny (model prog w) A (exec (.Assign [.Subscript (.Name x p1) (.Name k p2) p3] v pos) env) (PS prog w hB F sc L R G s (.ok (.next, σ.set x (.dict (if ks.contains b then ks else ks ++ [b]))))) X s := by
  obtain ⟨kk, pp, rfl⟩ : ∃ kk pp, v = .Constant (.bool true) kk pp := by
    cases v with
    | Constant c k p =>
      cases c with
      | bool b => cases b with
        | true => exact ⟨_, _, rfl⟩
        | false => exact noTrue hv
      | _ => exact noTrue hv
    | _ => exact noTrue hv
  obtain ⟨a, h1, h2, h3⟩ := S.loc x _ hx
  obtain ⟨u, h4, h5⟩ := S.loc k _ hk
  cases h5 with | bytes _ t =>
  refine wpAny_Assign_Subscript (wpAny_Constant_bool ?_) rfl
  refine load_local he S (by rw [hx]; rfl) h1 ?_
  refine load_local he S (by rw [hk]; rfl) h4 ?_
  have O : Owned σ m x a := ⟨_, hx, rfl, h1⟩
  refine h2.set (by rw [← lim_eq]; exact Nat.le_of_lt hl) fun h' D' sb => ?_
  refine ⟨.next, _, m, G, h', s.toks + 1, rfl, rfl, S.turn hx rfl h1 (S.own x a O).2.2 sb ⟨a, rfl, D', h3⟩ rfl, Gr.refl .., rfl⟩
inductive ApForm (x : Str) (a : Expr) : Expr → Prop
  | mk (p ap pos : Pos) (h1 : (ap.endLine == pos.line) = true) (h2 : isStar a = false) : ApForm x a (.Call (.Attribute (.Name x p) ("append" : Str) ap) [a] [] pos)
theorem append_form {e : Expr} {x : Str} {a : Expr} (h : isAppend e = some (x, a)) : ApForm x a e := by
  cases e with
  | Call f as kws pos =>
    cases f with
    | Attribute o nm ap =>
      cases o with
      | Name x' p =>
        rcases as with _ | ⟨a', _ | ⟨_, _⟩⟩
        · exact noSome h
        · rcases kws with _ | ⟨_, _⟩
          · have h : (if nm == Str.ofString "append" && ap.endLine == pos.line && !isStar a' then some (x', a') else none) = some (x, a) := h
            by_cases hc : (nm == Str.ofString "append" && ap.endLine == pos.line && !isStar a') = true
            · rw [if_pos hc] at h
              have hc := Bool.and_eq_true_iff.mp hc
              have hd := Bool.and_eq_true_iff.mp hc.1
              injection h with h
              injection h with h1 h2
              subst h1 h2
              have : nm = ("append" : Str) := eq_of_beq hd.1
              subst this
              exact .mk p ap pos hd.2 ((Bool.not_eq_true' _).mp hc.2)
            · rw [if_neg hc] at h; exact noSome h
          · exact noSome h
        · exact noSome h
      | _ => exact noSome h
    | _ => exact noSome h
  | _ => exact noSome h
theorem append_ok (H : SEx prog w C hB gA bA E n) (ha : Amb C A n F) (he : EnvOk gA bA env sc L) (S : St prog w hB F sc L R R G σ m s.heap) {e a : Expr} {x : Str} {pos : Pos} (hf : isAppend e = some (x, a)) {xs₀ : List PV} (hx : σ.get x = some (.own xs₀))
    {r : Rs (Outc × Loc)} (hr : r = (E.ex sc a σ).bind fun p => (match p.2.get x with
        | some (.own xs) => if xs.length < lim then .ok (.next, p.2.set x (.own (xs ++ [p.1]))) else .stuck
        | _ => .stuck)) (hns : r ≠ .stuck) :
    wpAny (model prog w) A (exec (.Expr e pos) env) (PS prog w hB F sc L R G s r) (PX C F R s r) s := by
  cases append_form hf with | mk p ap cpos hline hst =>
  have hse : starEach [a] env = [(false, eval a env)] := by rw [star_one hst]; rfl
  refine wpAny_Expr ?_ (by unfold interactive; rw [he.scope, he.kind]; rfl) rfl
  refine wpAny_Call_append rfl (by rw [hse]; rfl) hline (by rw [hse]; rfl) ?_
  obtain ⟨D, o, vs, nn, h1, h2, h3, h4, h5, h6, h7⟩ := S.loc x _ hx
  refine load_local he S (by rw [hx]; rfl) h1 ⟨D, vs.toArray, rfl, ⟨o, nn, h2, h3, h4, h5⟩, ?_⟩
  refine runE (H a ha he S (bnN hr hns)) (fun p σ₁ u G₁ h₁ tk e1 S₁ g₁ hv => ?_) fun e s' x => x.cast0 (bnE hr)
  replace hr := bnO hr e1
  dsimp only at hr
  cases hx₁ : σ₁.get x with
  | none => rw [hx₁] at hr; exact absurd hr hns
  | some sl =>
    rw [hx₁] at hr
    cases sl with
    | own xs =>
      by_cases hl : xs.length < lim
      · have hr := hr.trans (if_pos hl)
        obtain ⟨D₁, o₁, vs₁, n₁, k1, k2, k3, k4, k5, k6, k7⟩ := S₁.loc x _ hx₁
        rw [h1] at k1
        injection k1 with k1
        injection k1 with k1
        subst k1
        have O : Owned σ₁ m x D := ⟨_, hx₁, rfl, h1⟩
        refine list_append_plainL (s := { s with heap := h₁, toks := tk }) (its := vs₁.toArray) ⟨o₁, n₁, k2, k3, k4, k5⟩ (fun h' hP sb => ?_) (by rw [List.size_toArray, k6.length, ← lim_eq]; exact Nat.le_of_lt hl)
        obtain ⟨o₂, n₂, q1, q2, q3, q4⟩ := hP
        refine ⟨.next, _, m, G₁, h', tk, hr, rfl, S₁.turn hx₁ rfl h1 (S₁.own x D O).2.2 sb ⟨D, o₂, vs₁ ++ [u], n₂, rfl, q1, q2, q3, by rw [q4]; simp, k6.append (.cons hv .nil), k7⟩ rfl, g₁, rfl⟩
      · exact absurd (hr.trans (if_neg hl)) hns
    | _ => exact absurd hr hns
theorem if_ok (T : STr prog w C hB gA bA E n) (Hs : SSs prog w C hB gA bA E n) (ha : Amb C A n F) (he : EnvOk gA bA env sc L) (S : St prog w hB F sc L R R G σ m s.heap) (hRL : R L = none) (hF : C.exc = true → ∃ outer, F = env :: outer ∧ env.frame = some L)
    {t : Expr} {b o : List Stmt} {pos : Pos} {r : Rs (Outc × Loc)} (hr : r = (E.tr sc t σ).bind fun p => if p.1 then E.ss sc b p.2 else E.ss sc o p.2) (hns : r ≠ .stuck) :
    wpAny (model prog w) A (exec (.If t b o pos) env) (PS prog w hB F sc L R G s r) (PX C F R s r) s := by
  refine wpAny_If (runE (T t ha he S (bnN hr hns)) (fun p σ₁ v G₁ h₁ tk e1 S₁ g₁ hv => ?_) fun e s' x => x.cast0 (bnE hr))
  replace hr := bnO hr e1
  have hv' : v = p := hv
  subst hv'
  cases v with
  | true =>
    have hr : r = E.ss sc b σ₁ := hr
    exact wpAny_mono (Hs (s := { s with heap := h₁, toks := tk }) b ha he S₁ hRL hF (hr ▸ hns)) (fun v s' x => x.cast g₁ hr.symm) fun e s' x => x.cast (s₁ := s) fun q => hr.trans q
  | false =>
    have hr : r = E.ss sc o σ₁ := hr
    exact wpAny_mono (Hs (s := { s with heap := h₁, toks := tk }) o ha he S₁ hRL hF (hr ▸ hns)) (fun v s' x => x.cast g₁ hr.symm) fun e s' x => x.cast (s₁ := s) fun q => hr.trans q
theorem ret_ok (H : SEx prog w C hB gA bA E n) (ha : Amb C A n F) (he : EnvOk gA bA env sc L) (S : St prog w hB F sc L R R G σ m s.heap) {e : Expr} {pos : Pos} {r : Rs (Outc × Loc)} (hr : r = (E.ex sc e σ).bind fun p => .ok (.ret p.1, p.2)) (hns : r ≠ .stuck) :
    wpAny (model prog w) A (exec (.Return (some e) pos) env) (PS prog w hB F sc L R G s r) (PX C F R s r) s := by
  refine wpAny_Return_some (runE (H e ha he S (bnN hr hns)) (fun p σ₁ v G₁ h₁ tk e1 S₁ g₁ hv => ?_) fun e s' x => x.cast0 (bnE hr))
  have hr1 := bnO hr e1
  exact ⟨.ret p, σ₁, m, G₁, h₁, tk, hr1, rfl, S₁, g₁, v, rfl, hv⟩
inductive VeForm (sc : Scope) : Expr → Prop
  | mk (p : Pos) (t : Str) (k : Nat) (q pos : Pos) (hg : isG sc ("ValueError" : Str) = true) : VeForm sc (.Call (.Name ("ValueError" : Str) p) [.Constant (.str t) k q] [] pos)
theorem ve_form {e : Expr} (h : isVE sc σ e = true) : VeForm sc e := by
  cases e with
  | Call fe as kws pos =>
    cases fe with
    | Name f p =>
      rcases as with _ | ⟨a', ar⟩
      · exact noTrue h
      · cases a' with
        | Constant c k q =>
          cases c with
          | str t =>
            rcases ar with _ | ⟨_, _⟩
            rotate_left
            · exact noTrue h
            rcases kws with _ | ⟨_, _⟩
            · have h := Bool.and_eq_true_iff.mp (show (f == Str.ofString "ValueError" && isG sc f && (σ.get f).isNone) = true from h)
              have h1 := Bool.and_eq_true_iff.mp h.1
              have : f = ("ValueError" : Str) := eq_of_beq h1.1
              subst this
              exact .mk p t k q pos h1.2
            · exact noTrue h
          | _ => exact noTrue h
        | _ => exact noTrue h
    | _ => exact noTrue h
  | _ => exact noTrue h
theorem raise_ok (B : BaseOk C hB gA bA mg mb) (ha : Amb C A n F) (he : EnvOk gA bA env sc L) (S : St prog w hB F sc L R R G σ m s.heap) {e : Expr} {pos : Pos} (hv : isVE sc σ e = true) (hexc : C.exc = true) {Q : Flow → Shared → Prop} :
    wpAny (model prog w) A (exec (.Raise (some e) none pos) env) Q (PX C F R s (Rs.exc : Rs (Outc × Loc))) s := by
  cases ve_form hv with | mk p t k q cpos hg =>
  refine wpAny_Raise_call PySem.F.excCall_ValueError PySem.F.excRaise_ValueError ha.handled rfl (load_builtin B he S hg B.ve ⟨rfl, ?_⟩)
  refine Calls.evalArgs_plain (Calls.spliced_cons (wpAny_Constant_str (k := k) (pos := q) (Calls.spliced_nil ⟨rfl, by show 1 ≤ sizeLine; rw [sizeLine_eq]; decide, fun h' e hm => ?_⟩)))
  have hk : ∀ b o, s.heap.get? b = some o → h'.get? b = some o := hm.keeps
  have hn : s.heap.get? e = none := hm.new
  obtain ⟨t', ht, _⟩ := hm.there
  refine ⟨rfl, hexc, e, h', s.toks + 1, rfl, rfl, S.kept.keeps hk, FunFrames.tr S.ff (Tr.of_keeps (fr := []) (own := noOwn) hk) fun _ _ x => x, ⟨⟨S.kept.fresh hn, fun q => ?_⟩, _, _, ht, rfl, rfl, by simp, .inl ⟨fun x => x, rfl⟩⟩⟩
  obtain ⟨o, ho⟩ := S.frame_get q
  rw [hn] at ho; cases ho
theorem try_ok (B : BaseOk C hB gA bA mg mb) (H : SEx prog w C hB gA bA E n) (ha : Amb C A n F) (he : EnvOk gA bA env sc L) (S : St prog w hB F sc L R R G σ m s.heap) (hRL : R L = none) (hF : C.exc = true → ∃ outer, F = env :: outer ∧ env.frame = some L)
    {x y : Str} {v : Expr} {c : Const} {p1 p2 p3 p4 p5 p6 p7 pos : Pos} {k : Nat} (hc : isComp v = false) (hg : isG sc ("ValueError" : Str) = true)
    {r : Rs (Outc × Loc)} (hr : r = match setE E sc x v σ with
      | .exc => (match constP c, σ.get y with
        | some w, some _ => .ok (.next, σ.set y (.val w))
        | _, _ => .stuck)
      | o => o) (hns : r ≠ .stuck) :
    wpAny (model prog w) A (exec (.Try [.Assign [.Name x p1] v p2] [.ExceptHandler (some (.Name ("ValueError" : Str) p3)) none [.Assign [.Name y p4] (.Constant c k p5) p6] p7] [] [] pos) env) (PS prog w hB F sc L R G s r) (PX C F R s r) s := by
  have hns0 : setE E sc x v σ ≠ .stuck := fun q => by rw [q] at hr; exact hns hr
  have hex : E.ex sc v σ ≠ .stuck := bind_ns (by unfold setE at hns0; exact hns0)
  have hsw : swapsWith v (some (.Name x p1)) p2.line env = pure false := by cases v <;> first | rfl | exact noTrue hc.symm
  refine wpAny_Try_except (wpAny_execs_cons (wpAny_Assign_Name (runE (H v ha he (S.rekeep (TrR.refl _ s.heap)) hex) (fun p σ₁ u G₁ h₁ tk e1 S₁ g₁ hv => ?_) fun e s' x => ?_) hsw))
  · -- it gives
    have S₁' := S₁.rekeep (S.kept.trans0 S₁.kept)
    have e0 : setE E sc x v σ = (match σ₁.get x with | some _ => Rs.ok (Outc.next, σ₁.set x (.val p)) | none => .stuck) := by unfold setE; rw [e1]; rfl
    cases hx : σ₁.get x with
    | none => rw [hx] at e0; exact absurd e0 hns0
    | some sl =>
      rw [hx] at e0
      rw [e0] at hr
      exact store_ok (s := { s with heap := h₁, toks := tk }) he S₁' hx fun h' ns' sb => wpAny_pure (wpAny_pure ⟨.next, _, _, G₁, h', tk + 1, hr, rfl, S₁'.storeVal hRL hx ns' sb hv, g₁, rfl⟩)
  · -- it raises
    obtain ⟨hre, hexc, xa, h', tk, rfl, rfl, ht, hff, hX⟩ := x
    have e0 : setE E sc x v σ = .exc := by unfold setE; rw [hre]; rfl
    rw [e0] at hr
    dsimp only at hr
    obtain ⟨outer, hFo, hfl⟩ := hF hexc
    have hff' := hff
    rw [hFo] at hff'
    have hfr : ∀ b ∈ framesOf (env :: outer), ∃ o, h'.get? b = some o := fun b hb => FunFrames.get hff' hb
    refine noteFrame_ok (s := { s with heap := h', toks := tk }) (outer := outer) (by rw [ha.frames hexc, hFo]) hff' hfl hX (fun b hb => ⟨ht.fresh hb, fun q => ?_⟩) (fun b hb q => q.2 (hFo ▸ hb)) fun h₁ t₁ X₁ => ?_
    · obtain ⟨o, ho⟩ := FunFrames.get hff q
      rw [show h'.get? b = none from hb] at ho; cases ho
    refine setFlight_ok (s := { s with heap := h₁, toks := tk }) (env := env) (outer := outer) none X₁ fun h₂ t₂ X₂ => ?_
    rw [← hFo] at t₁ t₂
    have ht₂ : TrR (framesOf F) s.heap.get? h₂ := ht.trans (t₁.same t₂) fun b q => q.1
    have S₂ : St prog w hB F sc L R R G σ m h₂ := S.tr ht₂ (fun a o e => ht₂.exact (S.gin a o e) fun q => by rw [S.gfr a q] at e; cases e) (GSub.refl _) fun a o e => .inl e
    refine wpAny_handleBy_builtin (X := "ValueError") (T := "ValueError") (b := true) PySem.F.isExc_ValueError PySem.F.notTuple_ValueError PySem.F.self_ValueError ?_
    refine load_builtin (s := { s with heap := h₂, toks := tk }) B he S₂ hg B.ve ⟨rfl, ?_, ?_⟩
    · obtain ⟨oe, vs, y1, y2, _⟩ := X₂.there
      exact ⟨oe, y1, y2⟩
    · rw [if_pos rfl]
      refine setFlight_ok (s := { s with heap := h₂, toks := tk }) (env := env) (outer := outer) none X₂ fun h₃ t₃ X₃ => ?_
      rw [← hFo] at t₃
      have ht₃ : TrR (framesOf F) s.heap.get? h₃ := ht₂.trans t₃ fun b q => q.1
      have S₃ : St prog w hB F sc L R R G σ m h₃ := S.tr ht₃ (fun a o e => ht₃.exact (S.gin a o e) fun q => by rw [S.gfr a q] at e; cases e) (GSub.refl _) fun a o e => .inl e
      cases hcp : constP c with
      | none => rw [hcp] at hr; exact absurd hr hns
      | some wv =>
        cases hy : σ.get y with
        | none => rw [hcp, hy] at hr; exact absurd hr hns
        | some sl =>
          rw [hcp, hy] at hr
          refine wpAny_execs_cons (wpAny_Assign_Name (wpAny_mono (const_ok (s := { s with heap := h₃, toks := tk }) S₃ hcp) (fun u s' q => ?_) fun _ _ q => q) (by cases c <;> rfl))
          obtain ⟨p, σ', G', h₄, tk₄, e4, rfl, S₄, g₄, hv⟩ := q
          cases e4
          exact store_ok (s := { s with heap := h₄, toks := tk₄ }) he S₄ hy fun h₅ ns₅ sb => wpAny_pure ⟨.next, _, _, G', h₅, tk₄ + 1, hr, rfl, S₄.storeVal hRL hy ns₅ sb hv, g₄, rfl⟩
end
end Mine
set_option maxRecDepth 100000
set_option linter.unusedVariables false
set_option linter.unusedSimpArgs false
namespace Mine
open PySem PyProof.Rows PySem.W
section
variable (prog : Program) (w : World) (C : Ctx) (hB : Heap) (gA bA : Addr)
noncomputable def SCa (E : Ev) (n : Nat) : Prop := ∀ {A : Around} {F : List Env} {sc csc : Scope} {L : Addr} {env : Env} {R G : GM} {σ : Loc} {m : Str → Option Value} {s : Shared} {x : Str} {px pos cpos : Pos} {elt : Expr} {gens : List Comprehension},
  Amb C A n F → EnvOk gA bA env sc L → St prog w hB F sc L R R G σ m s.heap → R L = none → setE E sc x (.ListComp elt gens csc cpos) σ ≠ .stuck →
  wpAny (model prog w) A (exec (.Assign [.Name x px] (.ListComp elt gens csc cpos) pos) env) (PS prog w hB F sc L R G s (setE E sc x (.ListComp elt gens csc cpos) σ)) (PX C F R s (setE E sc x (.ListComp elt gens csc cpos) σ)) s
end
section
variable {prog : Program} {w : World} {C : Ctx} {hB : Heap} {gA bA : Addr} {mg mb : Str → Option Value} {E : Ev} {n : Nat}
theorem SEx.lift (H : SEx prog w C hB gA bA E n) : SEx prog w C hB gA bA E (n + 1) := fun e ha he S hns => H e ha.pred he S hns
theorem STr.lift (H : STr prog w C hB gA bA E n) : STr prog w C hB gA bA E (n + 1) := fun e ha he S hns => H e ha.pred he S hns
theorem SCl.lift (H : SCl prog w C hB gA bA E n) : SCl prog w C hB gA bA E (n + 1) := fun ha a b c d e f g h => H ha.pred a b c d e f g h
theorem ex_step (B : BaseOk C hB gA bA mg mb) (H : Snd prog w C hB gA bA E n) : SEx prog w C hB gA bA { E with ex := stepEx C E } (n + 1) := by
  intro A F sc L env R K G σ m s e ha he S hns
  change stepEx C E sc e σ ≠ .stuck at hns
  show wpAny (model prog w) A (eval e env) (PE prog w hB F sc L R K G m s (stepEx C E sc e σ) VR) (PX C F K s (stepEx C E sc e σ)) s
  replace ha := ha.pred
  cases e with
  | Constant c k p =>
    unfold stepEx at hns ⊢
    dsimp only at hns ⊢
    obtain ⟨v, hv, e1⟩ := Rs.of_ns hns
    rw [e1]
    exact const_ok S hv
  | Name x p => exact name_ok B he S hns
  | BinOp l op r p => exact binop_step H.ex ha he S rfl hns
  | Compare l ops cs p => exact compare_step B H.ex ha he S rfl hns
  | Tuple es k p => exact tuple_ok H.ex ha he S rfl hns
  | List es p => exact list_ok H.ex ha he S rfl hns
  | Subscript o i p => exact sub_step H.ex ha he S rfl hns
  | ListComp elt gens csc p => exact comp_step H.ex ha he S hns
  | Call fn args kws p =>
    cases fn with
    | Name f p1 =>
      rcases kws with _ | ⟨_, _⟩
      · exact call_step B H.ex H.cl ha he S hns
      · exact absurd rfl hns
    | Attribute o mm ap =>
      rcases args with _ | ⟨a, _ | ⟨_, _⟩⟩
      · exact absurd rfl hns
      · rcases kws with _ | ⟨_, _⟩
        · unfold stepEx at hns ⊢
          dsimp only at hns ⊢
          by_cases hl : (ap.endLine == p.line) = true
          · simp only [hl, if_true] at hns ⊢
            exact meth_step H.ex ha he S hl hns
          · simp only [hl, Bool.false_eq_true, if_false] at hns
            exact absurd rfl hns
        · exact absurd rfl hns
      · exact absurd rfl hns
    | _ => exact absurd rfl hns
  | _ => exact absurd rfl hns
theorem ca_step (H : SEx prog w C hB gA bA E n) : SCa prog w C hB gA bA { E with ex := stepEx C E } (n + 1) := by
  intro A F sc csc L env R G σ m s x px pos cpos elt gens ha he S hRL hns
  exact comp_assign H ha.pred he S hRL rfl hns
inductive StForm : Stmt → Prop
  | name (x : Str) (px : Pos) (v : Expr) (pos : Pos) : StForm (.Assign [.Name x px] v pos)
  | tuple (ts : List Expr) (k : Nat) (p : Pos) (v : Expr) (pos : Pos) : StForm (.Assign [.Tuple ts k p] v pos)
  | item (x : Str) (p1 : Pos) (k : Str) (p2 p3 : Pos) (v : Expr) (pos : Pos) : StForm (.Assign [.Subscript (.Name x p1) (.Name k p2) p3] v pos)
  | expr (e : Expr) (pos : Pos) : StForm (.Expr e pos)
  | cond (t : Expr) (b o : List Stmt) (pos : Pos) : StForm (.If t b o pos)
  | ret (e : Expr) (pos : Pos) : StForm (.Return (some e) pos)
  | raise (e : Expr) (pos : Pos) : StForm (.Raise (some e) none pos)
  | loop (t it : Expr) (b : List Stmt) (pos : Pos) : StForm (.For t it b [] pos)
  | guard (x : Str) (p1 : Pos) (v : Expr) (p2 : Pos) (f : Str) (p3 : Pos) (y : Str) (p4 : Pos) (c : Const) (k : Nat) (p5 p6 p7 pos : Pos) : StForm (.Try [.Assign [.Name x p1] v p2] [.ExceptHandler (some (.Name f p3)) none [.Assign [.Name y p4] (.Constant c k p5) p6] p7] [] [] pos)
theorem try_shape {C : Ctx} {E : Ev} {sc : Scope} {σ : Loc} {b : List Stmt} {hs : List ExceptHandler} {o f0 : List Stmt} {pos : Pos} (h : stepSt C E sc (.Try b hs o f0 pos) σ ≠ .stuck) : StForm (.Try b hs o f0 pos) := by
  rcases b with _ | ⟨st, b⟩
  · exact absurd rfl h
  cases st with
  | Assign ts v p2 =>
    rcases ts with _ | ⟨t, ts⟩
    · exact absurd rfl h
    cases t with
    | Name x p1 =>
      rcases ts with _ | ⟨_, _⟩
      rotate_left
      · exact absurd rfl h
      rcases b with _ | ⟨_, _⟩
      rotate_left
      · exact absurd rfl h
      rcases hs with _ | ⟨⟨ty, nm, bd, p7⟩, hs⟩
      · exact absurd rfl h
      rcases ty with _ | ty
      · exact absurd rfl h
      cases ty with
      | Name f p3 =>
        rcases nm with _ | _
        rotate_left
        · exact absurd rfl h
        rcases bd with _ | ⟨st2, bd⟩
        · exact absurd rfl h
        cases st2 with
        | Assign ts2 v2 p6 =>
          rcases ts2 with _ | ⟨t2, ts2⟩
          · exact absurd rfl h
          cases t2 with
          | Name y p4 =>
            rcases ts2 with _ | ⟨_, _⟩
            rotate_left
            · exact absurd rfl h
            cases v2 with
            | Constant c k p5 =>
              rcases bd with _ | ⟨_, _⟩
              rotate_left
              · exact absurd rfl h
              rcases hs with _ | ⟨_, _⟩
              rotate_left
              · exact absurd rfl h
              rcases o with _ | ⟨_, _⟩
              rotate_left
              · exact absurd rfl h
              rcases f0 with _ | ⟨_, _⟩
              rotate_left
              · exact absurd rfl h
              exact .guard ..
            | _ => exact absurd rfl h
          | _ => exact absurd rfl h
        | _ => exact absurd rfl h
      | _ => exact absurd rfl h
    | _ => exact absurd rfl h
  | _ => exact absurd rfl h
theorem st_form {C : Ctx} {E : Ev} {sc : Scope} {σ : Loc} {st : Stmt} (h : stepSt C E sc st σ ≠ .stuck) : StForm st := by
  cases st with
  | Assign ts v pos =>
    rcases ts with _ | ⟨tg, r⟩
    · exact absurd rfl h
    cases tg with
    | Name x px =>
      rcases r with _ | ⟨_, _⟩
      · exact .name ..
      · exact absurd rfl h
    | Tuple ts k p =>
      rcases r with _ | ⟨_, _⟩
      · exact .tuple ..
      · exact absurd rfl h
    | Subscript o i p3 =>
      cases o with
      | Name x p1 =>
        cases i with
        | Name k p2 =>
          rcases r with _ | ⟨_, _⟩
          · exact .item ..
          · exact absurd rfl h
        | _ => exact absurd rfl h
      | _ => exact absurd rfl h
    | _ => exact absurd rfl h
  | Expr e pos => exact .expr ..
  | If t b o pos => exact .cond ..
  | Return r pos =>
    rcases r with _ | e
    · exact absurd rfl h
    · exact .ret ..
  | Raise e0 c0 pos =>
    rcases e0 with _ | e
    · exact absurd rfl h
    rcases c0 with _ | _
    · exact .raise ..
    · exact absurd rfl h
  | For t it b orr pos =>
    rcases orr with _ | ⟨_, _⟩
    · exact .loop ..
    · exact absurd rfl h
  | Try b hs o f0 pos => exact try_shape h
  | _ => exact absurd rfl h
theorem emptyList_form {v : Expr} (h : emptyList v = true) : ∃ p, v = .List [] p := by
  cases v with
  | List es p =>
    cases es with
    | nil => exact ⟨p, rfl⟩
    | cons _ _ => exact noTrue h
  | _ => exact noTrue h
theorem emptyDict_form {v : Expr} (h : emptyDict v = true) : ∃ p, v = .Dict [] [] p := by
  cases v with
  | Dict ks vs p =>
    cases ks with
    | nil => cases vs with
      | nil => exact ⟨p, rfl⟩
      | cons _ _ => exact noTrue h
    | cons _ _ => exact noTrue h
  | _ => exact noTrue h
theorem notComp_form {v : Expr} (h : ¬ ∀ a b c d, v ≠ .ListComp a b c d) : ∃ a b c d, v = .ListComp a b c d :=
  Classical.byContradiction fun k => h fun a b c d e => k ⟨a, b, c, d, e⟩
theorem name_step (H : Snd prog w C hB gA bA E n) (Hc : SCa prog w C hB gA bA E n) {A : Around} {F : List Env} {sc : Scope} {L : Addr} {env : Env} {R G : GM} {σ : Loc} {m : Str → Option Value} {s : Shared} {x : Str} {px : Pos} {v : Expr} {pos : Pos} {r : Rs (Outc × Loc)}
    (ha : Amb C A n F) (he : EnvOk gA bA env sc L) (S : St prog w hB F sc L R R G σ m s.heap) (hRL : R L = none) (hr : r = stepSt C E sc (.Assign [.Name x px] v pos) σ) (hns : r ≠ .stuck) :
    wpAny (model prog w) A (exec (.Assign [.Name x px] v pos) env) (PS prog w hB F sc L R G s r) (PX C F R s r) s := by
  have e0 : stepSt C E sc (.Assign [.Name x px] v pos) σ = if emptyList v then (match σ.get x with
      | some _ => .ok (.next, σ.set x (.own []))
      | none => .stuck)
    else if emptyDict v then (match σ.get x with
      | some _ => .ok (.next, σ.set x (.dict []))
      | none => .stuck)
    else if isComp2 v then .stuck
    else setE E sc x v σ := rfl
  rw [e0] at hr
  by_cases h1 : emptyList v = true
  · rw [if_pos h1] at hr
    obtain ⟨p, rfl⟩ := emptyList_form h1
    cases hx : σ.get x with
    | none => rw [hx] at hr; exact absurd hr hns
    | some sl => rw [hx] at hr; subst hr; exact set_list he S hRL hx
  · rw [if_neg h1] at hr
    by_cases h2 : emptyDict v = true
    · rw [if_pos h2] at hr
      obtain ⟨p, rfl⟩ := emptyDict_form h2
      cases hx : σ.get x with
      | none => rw [hx] at hr; exact absurd hr hns
      | some sl => rw [hx] at hr; subst hr; exact set_dict he S hRL hx
    · rw [if_neg h2] at hr
      by_cases h3 : isComp2 v = true
      · rw [if_pos h3] at hr; exact absurd hr hns
      · rw [if_neg h3] at hr
        subst hr
        by_cases h4 : ∀ a b c d, v ≠ .ListComp a b c d
        · exact set_plain H.ex ha he S hRL (swaps_plain (Bool.eq_false_iff.mpr h3) h4) rfl hns
        · obtain ⟨a, b, c, d, rfl⟩ := notComp_form h4
          exact Hc ha he S hRL hns
theorem item_step (B : BaseOk C hB gA bA mg mb) {A : Around} {F : List Env} {sc : Scope} {L : Addr} {env : Env} {R G : GM} {σ : Loc} {m : Str → Option Value} {s : Shared} {x k : Str} {p1 p2 p3 : Pos} {v : Expr} {pos : Pos} {r : Rs (Outc × Loc)}
    (he : EnvOk gA bA env sc L) (S : St prog w hB F sc L R R G σ m s.heap) (hr : r = stepSt C E sc (.Assign [.Subscript (.Name x p1) (.Name k p2) p3] v pos) σ) (hns : r ≠ .stuck) :
    wpAny (model prog w) A (exec (.Assign [.Subscript (.Name x p1) (.Name k p2) p3] v pos) env) (PS prog w hB F sc L R G s r) (PX C F R s r) s := by
  have e0 : stepSt C E sc (.Assign [.Subscript (.Name x p1) (.Name k p2) p3] v pos) σ = if isTrueC v then (match σ.get x, σ.get k with
      | some (.dict ks), some (.val (.bytes b)) => if ks.length < lim then .ok (.next, σ.set x (.dict (if ks.contains b then ks else ks ++ [b]))) else .stuck
      | _, _ => .stuck)
    else .stuck := rfl
  rw [e0] at hr
  by_cases h1 : isTrueC v = true
  · rw [if_pos h1] at hr
    cases hx : σ.get x with
    | none => rw [hx] at hr; exact absurd hr hns
    | some sx =>
    rw [hx] at hr
    cases sx with
    | dict ks =>
      cases hk : σ.get k with
      | none => rw [hk] at hr; exact absurd hr hns
      | some sk =>
      rw [hk] at hr
      cases sk with
      | val u =>
        cases u with
        | bytes b =>
          by_cases hl : ks.length < lim
          · have hr := hr.trans (if_pos hl)
            subst hr
            exact dict_set B he S h1 hx hk hl
          · exact absurd (hr.trans (if_neg hl)) hns
        | _ => exact absurd hr hns
      | _ => exact absurd hr hns
    | _ => exact absurd hr hns
  · rw [if_neg h1] at hr; exact absurd hr hns
theorem expr_step (H : Snd prog w C hB gA bA E n) {A : Around} {F : List Env} {sc : Scope} {L : Addr} {env : Env} {R G : GM} {σ : Loc} {m : Str → Option Value} {s : Shared} {e : Expr} {pos : Pos} {r : Rs (Outc × Loc)}
    (ha : Amb C A n F) (he : EnvOk gA bA env sc L) (S : St prog w hB F sc L R R G σ m s.heap) (hr : r = stepSt C E sc (.Expr e pos) σ) (hns : r ≠ .stuck) :
    wpAny (model prog w) A (exec (.Expr e pos) env) (PS prog w hB F sc L R G s r) (PX C F R s r) s := by
  have e0 : stepSt C E sc (.Expr e pos) σ = (match isAppend e with
    | some (x, a) => (match σ.get x with
      | some (.own _) => (E.ex sc a σ).bind fun p => (match p.2.get x with
        | some (.own xs) => if xs.length < lim then .ok (.next, p.2.set x (.own (xs ++ [p.1]))) else .stuck
        | _ => .stuck)
      | _ => .stuck)
    | none => .stuck) := rfl
  rw [e0] at hr
  cases hf : isAppend e with
  | none => rw [hf] at hr; exact absurd hr hns
  | some xa =>
    rw [hf] at hr
    obtain ⟨x, a⟩ := xa
    cases hx : σ.get x with
    | none => have hr := hr; dsimp only at hr; rw [hx] at hr; exact absurd hr hns
    | some sl =>
      dsimp only at hr
      rw [hx] at hr
      cases sl with
      | own xs => exact append_ok H.ex ha he S hf hx hr hns
      | _ => exact absurd hr hns
theorem guard_step (B : BaseOk C hB gA bA mg mb) (H : Snd prog w C hB gA bA E n) {A : Around} {F : List Env} {sc : Scope} {L : Addr} {env : Env} {R G : GM} {σ : Loc} {m : Str → Option Value} {s : Shared} {x : Str} {p1 : Pos} {v : Expr} {p2 : Pos} {f : Str} {p3 : Pos} {y : Str} {p4 : Pos} {c : Const} {k : Nat} {p5 p6 p7 pos : Pos} {r : Rs (Outc × Loc)}
    (ha : Amb C A n F) (he : EnvOk gA bA env sc L) (S : St prog w hB F sc L R R G σ m s.heap) (hRL : R L = none) (hF : C.exc = true → ∃ outer, F = env :: outer ∧ env.frame = some L)
    (hr : r = stepSt C E sc (.Try [.Assign [.Name x p1] v p2] [.ExceptHandler (some (.Name f p3)) none [.Assign [.Name y p4] (.Constant c k p5) p6] p7] [] [] pos) σ) (hns : r ≠ .stuck) :
    wpAny (model prog w) A (exec (.Try [.Assign [.Name x p1] v p2] [.ExceptHandler (some (.Name f p3)) none [.Assign [.Name y p4] (.Constant c k p5) p6] p7] [] [] pos) env) (PS prog w hB F sc L R G s r) (PX C F R s r) s := by
  have e0 : stepSt C E sc (.Try [.Assign [.Name x p1] v p2] [.ExceptHandler (some (.Name f p3)) none [.Assign [.Name y p4] (.Constant c k p5) p6] p7] [] [] pos) σ = if f == Str.ofString "ValueError" && isG sc f && (σ.get f).isNone && !isComp v && !emptyList v && !emptyDict v then
      (match setE E sc x v σ with
      | .exc => (match constP c, σ.get y with
        | some w, some _ => .ok (.next, σ.set y (.val w))
        | _, _ => .stuck)
      | o => o)
    else .stuck := rfl
  rw [e0] at hr
  by_cases hc : (f == Str.ofString "ValueError" && isG sc f && (σ.get f).isNone && !isComp v && !emptyList v && !emptyDict v) = true
  · rw [if_pos hc] at hr
    simp only [Bool.and_eq_true, Bool.not_eq_true'] at hc
    have hf : f = ("ValueError" : Str) := eq_of_beq hc.1.1.1.1.1
    subst hf
    exact try_ok B H.ex ha he S hRL hF hc.1.1.2 hc.1.1.1.1.2 hr hns
  · rw [if_neg hc] at hr; exact absurd hr hns
theorem st_step (B : BaseOk C hB gA bA mg mb) (H : Snd prog w C hB gA bA E n) (Hc : SCa prog w C hB gA bA E n) {A : Around} {F : List Env} {sc : Scope} {L : Addr} {env : Env} {R G : GM} {σ : Loc} {m : Str → Option Value} {s : Shared} (st : Stmt)
    (ha : Amb C A n F) (he : EnvOk gA bA env sc L) (S : St prog w hB F sc L R R G σ m s.heap) (hRL : R L = none) (hF : C.exc = true → ∃ outer, F = env :: outer ∧ env.frame = some L) (hns : stepSt C E sc st σ ≠ .stuck) :
    wpAny (model prog w) A (exec st env) (PS prog w hB F sc L R G s (stepSt C E sc st σ)) (PX C F R s (stepSt C E sc st σ)) s := by
  cases st_form hns with
  | name x px v pos => exact name_step H Hc ha he S hRL rfl hns
  | tuple ts k p v pos =>
    by_cases h1 : (isTup v || isComp v) = true
    · exact absurd (show stepSt C E sc (.Assign [.Tuple ts k p] v pos) σ = .stuck from if_pos h1) hns
    · have h1' := (Bool.or_eq_false_iff.mp (Bool.eq_false_iff.mpr h1))
      exact set_tuple H.ex ha he S hRL h1'.1 h1'.2 (if_neg h1) hns
  | item x p1 k p2 p3 v pos => exact item_step B he S rfl hns
  | expr e pos => exact expr_step H ha he S rfl hns
  | cond t b o pos => exact if_ok H.tr H.ss ha he S hRL hF rfl hns
  | ret e pos => exact ret_ok H.ex ha he S rfl hns
  | raise e pos =>
    by_cases h1 : (isVE sc σ e && C.exc) = true
    · have e1 : stepSt C E sc (.Raise (some e) none pos) σ = .exc := if_pos h1
      rw [e1]
      have h1' := Bool.and_eq_true_iff.mp h1
      exact raise_ok B ha he S h1'.1 h1'.2
    · exact absurd (show stepSt C E sc (.Raise (some e) none pos) σ = .stuck from if_neg h1) hns
  | loop t it b pos =>
    by_cases h1 : isSetE it = true
    · exact absurd (show stepSt C E sc (.For t it b [] pos) σ = .stuck from if_pos h1) hns
    · exact for_ok B H.ex H.ss ha he S hRL hF (Bool.eq_false_iff.mpr h1) (if_neg h1) hns
  | guard x p1 v p2 f p3 y p4 c k p5 p6 p7 pos => exact guard_step B H ha he S hRL hF rfl hns
theorem ss_step (B : BaseOk C hB gA bA mg mb) (H : Snd prog w C hB gA bA E n) (Hc : SCa prog w C hB gA bA E n) : SSs prog w C hB gA bA { E with ss := stepSs C E } (n + 1) := by
  intro A F sc L env R G σ m s b ha he S hRL hF hns
  change stepSs C E sc b σ ≠ .stuck at hns
  show wpAny (model prog w) A (execs b env) (PS prog w hB F sc L R G s (stepSs C E sc b σ)) (PX C F R s (stepSs C E sc b σ)) s
  induction b generalizing G σ m s with
  | nil => exact wpAny_execs_nil ⟨.next, σ, m, G, s.heap, s.toks, rfl, rfl, S, Gr.refl .., rfl⟩
  | cons st rest ih =>
    have e0 : stepSs C E sc (st :: rest) σ = (stepSt C E sc st σ).bind fun p => match p.1 with
      | .next => stepSs C E sc rest p.2
      | .ret v => .ok (.ret v, p.2) := rfl
    rw [e0] at hns ⊢
    refine wpAny_execs_cons (wpAny_mono (st_step B H Hc st ha.pred he S hRL hF (bind_ns hns)) (fun fl s' x => ?_) fun e s' x => x.cast0 fun q => by simp only [q, Rs.exc_bind])
    obtain ⟨o, σ', m', G', h', tk, e1, rfl, S', g', hfl⟩ := x
    simp only [e1, Rs.ok_bind] at hns ⊢
    cases o with
    | next =>
      cases hfl
      exact wpAny_mono (ih (s := { s with heap := h', toks := tk }) S' hns) (fun v s' x => x.cast g' rfl) fun e s' x => x.cast (s₁ := s) fun q => q
    | ret p =>
      obtain ⟨v, rfl, hv⟩ := hfl
      exact ⟨.ret p, σ', m', G', h', tk, rfl, rfl, S', g', v, rfl, hv⟩
theorem snd_step (B : BaseOk C hB gA bA mg mb) (H : Snd prog w C hB gA bA E n) (Hc : SCa prog w C hB gA bA E n) : Snd prog w C hB gA bA (step C E) (n + 1) ∧ SCa prog w C hB gA bA (step C E) (n + 1) :=
  ⟨⟨ex_step B H, STr.lift (E := { E with tr := stepTr E }) (tr_step B H.ex H.tr), ss_step B H Hc, cl_step B H.ss⟩, ca_step H.ex⟩
theorem snd (B : BaseOk C hB gA bA mg mb) : ∀ n, Snd prog w C hB gA bA (ev C n) n ∧ SCa prog w C hB gA bA (ev C n) n
  | 0 => ⟨⟨fun _ _ _ _ h => absurd rfl h, fun _ _ _ _ h => absurd rfl h, fun _ _ _ _ _ _ h => absurd rfl h, fun _ _ _ _ _ _ _ _ h => absurd rfl h⟩, fun _ _ _ _ h => absurd rfl h⟩
  | n + 1 => snd_step B (snd B n).1 (snd B n).2
end
end Mine
set_option maxRecDepth 100000
set_option linter.unusedVariables false
set_option linter.unusedSimpArgs false
namespace Mine
open PySem PyProof.Rows PySem.W
theorem lookup_zip {xs : List Str} (hn : xs.Nodup) : ∀ {us : List Value}, us.length = xs.length → (xs.filterMap fun n => ((xs.zip us).lookup n).map (n, ·)) = xs.zip us := by
  induction xs with
  | nil => intro us h; cases us <;> simp at h; rfl
  | cons x xs ih =>
    intro us h
    cases us with
    | nil => simp at h
    | cons u us =>
      have hn' := List.nodup_cons.mp hn
      rw [List.zip_cons_cons, List.filterMap_cons]
      have e1 : ((x, u) :: xs.zip us).lookup x = some u := by simp [List.lookup_cons]
      rw [e1]
      simp only [Option.map_some]
      congr 1
      have key : ∀ (l : List Str), (∀ y ∈ l, y ≠ x) → (l.filterMap fun n => (((x, u) :: xs.zip us).lookup n).map (n, ·)) = l.filterMap fun n => ((xs.zip us).lookup n).map (n, ·) := by
        intro l hl
        induction l with
        | nil => rfl
        | cons y l ihl =>
          have hyx : (y == x) = false := beq_eq_false_iff_ne.mpr (hl y (.head _))
          rw [List.filterMap_cons, List.filterMap_cons, ihl fun z hz => hl z (.tail _ hz), List.lookup_cons, hyx]
      rw [key xs fun y hy q => hn'.1 (q ▸ hy)]
      exact ih hn'.2 (by simpa using h)
theorem zip_lookup_some {xs : List Str} : ∀ {us : List Value}, us.length = xs.length → ∀ x ∈ xs, ((xs.zip us).lookup x).isSome = true := by
  induction xs with
  | nil => intro us _ x hx; cases hx
  | cons y xs ih =>
    intro us h x hx
    cases us with
    | nil => simp at h
    | cons u us =>
      rw [List.zip_cons_cons, List.lookup_cons]
      by_cases q : (x == y) = true
      · simp [q]
      · have q' : (x == y) = false := by simpa using q
        simp only [q']
        rcases List.mem_cons.mp hx with rfl | hx
        · simp at q
        · exact ih (by simpa using h) x hx
noncomputable def plainArgs (p : Arguments) : Bool := p.posonlyargs.isEmpty && p.vararg.isNone && p.kwonlyargs.isEmpty && p.kw_defaults.isEmpty && p.kwarg.isNone && p.defaults.isEmpty && p.args.all (·.annotation.isNone)
theorem plainArgs_form {p : Arguments} (h : plainArgs p = true) : p = ⟨[], p.args, none, [], [], none, []⟩ ∧ ∀ a ∈ p.args, a.annotation = none := by
  obtain ⟨a, b, c, d, e, f, g⟩ := p
  unfold plainArgs at h
  simp only [Bool.and_eq_true, List.isEmpty_iff, Option.isNone_iff_eq_none, List.all_eq_true] at h
  obtain ⟨⟨⟨⟨⟨⟨rfl, rfl⟩, rfl⟩, rfl⟩, rfl⟩, rfl⟩, h⟩ := h
  exact ⟨rfl, h⟩
theorem zip_nil' {α β : Type} (l : List α) {ds : List β} (h : ds = []) : l.zip ds = [] := by rw [h]; exact List.zip_nil_right
theorem bind_plain {fd : FuncData} {as : List Arg} (hp : fd.params = ⟨[], as, none, [], [], none, []⟩) (hd : fd.defaults = .none) (hn : (as.map (·.arg)).Nodup) {us : List Value} (hl : us.length = as.length) :
    bindArgs fd ⟨us, []⟩ = pure ((as.map (·.arg)).zip us) := by
  have hl' : us.length = (as.map (·.arg)).length := by rw [List.length_map]; exact hl
  obtain ⟨f1, f2, f3, f4, f5, f6, f7, f8, f9, f10, f11, f12, f13, f14, f15⟩ := fd
  cases hp; cases hd
  generalize hxs : as.map (fun (x : Arg) => x.arg) = xs at hn hl'
  have hgt : ¬ ((decide (us.length > (([] : List Str) ++ as.map (fun (x : Arg) => x.arg)).length) && true) = true) := by
    rw [List.nil_append, hxs, ← hl', decide_eq_false (Nat.lt_irrefl _)]; exact Bool.false_ne_true
  refine (if_neg hgt).trans ?_
  have hm : ¬ ((!((([] ++ as.map (fun (x : Arg) => x.arg)).take (([] ++ as.map (fun (x : Arg) => x.arg)).length - (List.drop (([] : List Value).length - ([] ++ as.map (fun (x : Arg) => x.arg)).length) ([] : List Value)).length)).filter fun n => (((([] : List Str) ++ as.map (fun (x : Arg) => x.arg)).zip us).lookup n).isNone).isEmpty) = true) := by
    have : ((([] ++ as.map (fun (x : Arg) => x.arg)).take (([] ++ as.map (fun (x : Arg) => x.arg)).length - (List.drop (([] : List Value).length - ([] ++ as.map (fun (x : Arg) => x.arg)).length) ([] : List Value)).length)).filter fun n => (((([] : List Str) ++ as.map (fun (x : Arg) => x.arg)).zip us).lookup n).isNone) = [] := by
      rw [List.drop_nil, List.nil_append, hxs, List.length_nil, Nat.sub_zero, List.take_length, List.filter_eq_nil_iff]
      intro x hx
      have := zip_lookup_some hl' x hx
      rw [Option.isNone_iff_eq_none]
      intro q; rw [q] at this; cases this
    rw [this]; exact Bool.false_ne_true
  refine (if_neg hm).trans ?_
  rw [zip_nil' _ (show List.drop _ ((none : Option (Array Value)).getD #[]).toList = [] from List.drop_nil)]
  show (pure (((([] : List Str) ++ as.map (fun (x : Arg) => x.arg)) ++ []).filterMap fun n => (((([] : List Str) ++ as.map (fun (x : Arg) => x.arg)).zip us).lookup n).map (n, ·)) : Sem (List (Str × Value))) = _
  rw [List.append_nil, List.nil_append, hxs, lookup_zip hn hl']
theorem annotations_none : ∀ {as : List Arg} (env : Env), (∀ a ∈ as, a.annotation = none) → annotationsOf as env = []
  | [], _, _ => rfl
  | ⟨n, none, p⟩ :: as, env, h => by
    show annotationsOf as env = []
    exact annotations_none env fun a ha => h a (.tail _ ha)
  | ⟨n, some e, p⟩ :: as, env, h => by have := h _ (.head _); cases this
theorem plainTree {name : Str} {as : List Arg} {body : List Stmt} {scope : Scope} {pos : Pos} (h : ∀ a ∈ as, a.annotation = none) : PlainDefTree name ⟨[], as, none, [], [], none, []⟩ body scope pos := by
  intro env
  have e : ∀ e : Env, annotationsOf (as ++ [] ++ (none : Option Arg).toList ++ [] ++ (none : Option Arg).toList) e = [] := fun e => annotations_none e (by simpa using h)
  show defStmt name name ⟨[], as, none, [], [], none, []⟩ body scope pos env [] none [] [] ([], []) (fun e => annotationsOf (as ++ [] ++ (none : Option Arg).toList ++ [] ++ (none : Option Arg).toList) e ++ []) (.FunctionDef name ⟨[], as, none, [], [], none, []⟩ body [] none [] scope none name pos) = _
  rw [show (fun e : Env => annotationsOf (as ++ [] ++ (none : Option Arg).toList ++ [] ++ (none : Option Arg).toList) e ++ []) = fun _ => [] from funext fun e' => by rw [e e']; rfl]
  rfl
end Mine
set_option maxRecDepth 100000
set_option linter.unusedVariables false
set_option linter.unusedSimpArgs false
namespace Mine
open PySem PyProof.Rows PySem.W
inductive TopV where
  | fn (params : Arguments) (body : List Stmt) (scope : Scope)
  | val (v : PV)
abbrev Tab := List (Str × TopV)
noncomputable def valsOf (f : Expr → Option PV) : List Expr → Option (List PV)
  | [] => some []
  | e :: r => match f e, valsOf f r with
    | some a, some b => some (a :: b)
    | _, _ => none
noncomputable def valOf : Nat → Expr → Option PV
  | _ + 1, .Constant c _ _ => constP c
  | _ + 1, .UnaryOp .USub (.Constant (.int i) _ _) _ => some (.int (-i))
  | n + 1, .Tuple es _ _ => if es.length ≤ 100 then (valsOf (valOf n) es).map .tuple else none
  | _, _ => none
noncomputable def isCall0 : Expr → Option Str
  | .Call (.Name f _) [] [] _ => some f
  | _ => none
noncomputable def callOf : Stmt → Option Str
  | .Assign [.Name _ _] e _ => isCall0 e
  | _ => none
noncomputable def entryOf (tv : PV) : Stmt → Option (Str × TopV)
  | .Assign [.Name x _] e _ => (match isCall0 e with
    | some _ => some (x, .val tv)
    | none => (valOf 8 e).map fun v => (x, .val v))
  | .FunctionDef name a b _ _ _ sc _ _ _ => some (name, .fn a b sc)
  | _ => none
noncomputable def posOf : Stmt → List Pos
  | .FunctionDef _ _ _ _ _ _ _ _ _ p => [p]
  | _ => []
noncomputable def addSt (tv : PV) (T : Tab) (st : Stmt) : Tab := match entryOf tv st with
  | some e => e :: T
  | none => T
noncomputable def tabOf (tv : PV) (body : List Stmt) : Tab := body.foldl (addSt tv) []
noncomputable def keepNames : List Str := ["__builtins__", "__package__", "__loader__", "__spec__", "__file__", "__cached__", "len", "bytes", "type", "range", "ValueError", "list", "tuple", "__debug__"]
noncomputable def biNames : List (Str × Value) := [("len", .builtin "len"), ("bytes", .type "bytes"), ("type", .type "type"), ("range", .type "range"), ("ValueError", .type "ValueError"), ("list", .type "list"), ("tuple", .type "tuple")]
noncomputable def okB (p : Program) (poss : List Pos) : Stmt → Bool
  | .Assign [.Name x _] e _ => p.main.scope.names.lookup x == some .local && !keepNames.contains x && ((isCall0 e).isSome || (valOf 8 e).isSome)
  | .FunctionDef name a b [] none [] sc none bind pos => bind == name && p.main.scope.names.lookup name == some .local && !keepNames.contains name && plainArgs a && decide (a.args.map (·.arg)).Nodup &&
      (docOf b).isNone && scopeOk sc && (sc.names.all fun x => x.2 != .free) && poss.all fun r => !(r.line == pos.line && r.col == pos.col)
  | _ => false
noncomputable def C0 (f : Str) (fn : Fn) : Ctx := { glob := fun _ => none, fns := fun g => if g = f then some fn else none, exc := false }
noncomputable def StOk (p : Program) (tv : PV) (T : Tab) (poss : List Pos) (st : Stmt) : Prop :=
  okB p poss st = true ∧ ∀ f, callOf st = some f → ∃ b sc, (f == Str.ofString "__debug__") = false ∧ T.lookup f = some (.fn ⟨[], [], none, [], [], none, []⟩ b sc) ∧ (ev (C0 f ⟨[], sc, b⟩) 60).cl f [] = .ok tv
noncomputable def TopOk (p : Program) (tv : PV) : Tab → List Pos → List Stmt → Prop
  | _, _, [] => True
  | T, poss, st :: r => StOk p tv T poss st ∧ TopOk p tv (addSt tv T st) (posOf st ++ poss) r
noncomputable def Gx (Pl : Addr) (h : Heap) : GM := fun a => if a = Pl ∨ a = mainGlobals then none else h.get? a
theorem Gx_in {Pl : Addr} {h : Heap} : GIn (Gx Pl h) h := fun a o e => by
  unfold Gx at e
  split at e
  · cases e
  · exact e
theorem Gx_sub {Pl : Addr} {h h' : Heap} (k : ∀ b o, b ≠ Pl → b ≠ mainGlobals → h.get? b = some o → h'.get? b = some o) : GSub (Gx Pl h) (Gx Pl h') := fun a o e => by
  unfold Gx at e ⊢
  split at e
  · cases e
  · rename_i hn
    rw [if_neg hn]
    exact k a o (fun q => hn (.inl q)) (fun q => hn (.inr q)) e
theorem Gx_at {Pl : Addr} {h : Heap} {a : Addr} {o : Obj} (e : h.get? a = some o) (h1 : a ≠ Pl) (h2 : a ≠ mainGlobals) : Gx Pl h a = some o := by
  unfold Gx
  rw [if_neg (by rintro (q | q); exact h1 q; exact h2 q)]
  exact e
inductive FnEnt (Pl : Addr) (h : Heap) (x : Str) (u : Option Value) (a : Arguments) (b : List Stmt) (sc : Scope) : Prop
  | mk (ad c' : Addr) (pm : Value) (h1 : u = some (.ref ad)) (h2 : Gx Pl h ad = some { cls := .type "function", data := .func (plainDef x a b sc pm (.ref c')) }) (oc : Obj) (vs : Array Value) (t : Tok) (h3 : Gx Pl h c' = some oc) (h4 : oc.data = .fields vs) (h5 : vs[1]? = some (.str x t))
noncomputable def EntOk (Pl : Addr) (h : Heap) (x : Str) (u u₀ : Option Value) : Option TopV → Prop
  | none => u = u₀
  | some (.val v) => ∃ w, u = some w ∧ Rep (Gx Pl h) w v
  | some (.fn a b sc) => FnEnt Pl h x u a b sc ∧ plainArgs a = true ∧ (a.args.map (·.arg)).Nodup ∧ scopeOk sc = true
theorem EntOk.mono {Pl : Addr} {h h' : Heap} {x : Str} {u u₀ : Option Value} {t : Option TopV} (g : GSub (Gx Pl h) (Gx Pl h')) (e : EntOk Pl h x u u₀ t) : EntOk Pl h' x u u₀ t := by
  cases t with
  | none => exact e
  | some t =>
    cases t with
    | val v => obtain ⟨w, h1, h2⟩ := e; exact ⟨w, h1, h2.mono g⟩
    | fn a b sc =>
      obtain ⟨⟨ad, c', pm, h1, h2, oc, vs, t, h3, h4, h5⟩, r⟩ := e
      exact ⟨⟨ad, c', pm, h1, g _ _ h2, oc, vs, t, g _ _ h3, h4, h5⟩, r⟩
structure TopInv (h₀ : Heap) (mg₀ : Str → Option Value) (T : Tab) (poss : List Pos) (h : Heap) (mg : Str → Option Value) (c Pl : Addr) (ps : Array Value) : Prop where
  main : h.Main mg c Pl ps
  keep : ∀ b o, h₀.get? b = some o → b ≠ mainGlobals → h.get? b = some o
  pl : h₀.get? Pl = none
  tab : ∀ x, EntOk Pl h x (mg x) (mg₀ x) (T.lookup x)
  pos : ∀ q : Pos, (poss.all fun r => !(r.line == q.line && r.col == q.col)) = true → codeAmong q ps.toList = none
  tri : ps.size % 3 = 0 ∧ TriplesOk ps.toList
structure BootOk (h₀ : Heap) (mg₀ mb : Str → Option Value) : Prop where
  b : h₀.Ns builtinsNs mb
  lim : h₀.NoLimit
  sm : ∃ o, h₀.get? sysModules = some o
  hit : ∀ x v, (x, v) ∈ biNames → mg₀ x = none ∧ mb x = some v
noncomputable def ctxOf (T : Tab) : Ctx where
  glob := fun x => match T.lookup x with
    | some (.val v) => some v
    | some _ => none
    | none => if x == Str.ofString "bytes" then some (.type "bytes") else if x == Str.ofString "list" then some (.type "list") else if x == Str.ofString "tuple" then some (.type "tuple") else none
  fns := fun x => match T.lookup x with
    | some (.fn a b sc) => some ⟨a.args.map (·.arg), sc, b⟩
    | _ => none
  exc := true
section
variable {h₀ h : Heap} {mg₀ mb mg : Str → Option Value} {T : Tab} {poss : List Pos} {c Pl : Addr} {ps : Array Value}
theorem EntOk.fnOk {x : Str} {u₀ : Option Value} {a : Arguments} {b : List Stmt} {sc : Scope} {u : Option Value} (e : EntOk Pl h x u u₀ (some (.fn a b sc))) : ∃ ad, u = some (.ref ad) ∧ FnOk h mainGlobals builtinsNs ⟨a.args.map (·.arg), sc, b⟩ ad := by
  obtain ⟨⟨ad, c', pm, h1, h2, oc, vs, t, h3, h4, h5⟩, hp, hn, hs⟩ := e
  obtain ⟨hf, _⟩ := plainArgs_form hp
  refine ⟨ad, h1, ⟨_, _, Gx_in _ _ h2, rfl, ⟨c', oc, vs, t, rfl, Gx_in _ _ h3, h4, h5⟩, rfl, rfl, rfl, rfl, fun us hl => ?_⟩, hs⟩
  exact bind_plain (fd := plainDef x a b sc pm (.ref c')) hf rfl hn (by simpa using hl)
theorem TopInv.miss (I : TopInv h₀ mg₀ T poss h mg c Pl ps) (B : BootOk h₀ mg₀ mb) {x : Str} {v : Value} (hx : (x, v) ∈ biNames) (ht : T.lookup x = none) : mg x = none ∧ mb x = some v := by
  obtain ⟨h1, h2⟩ := B.hit x v hx
  have := I.tab x
  rw [ht] at this
  exact ⟨this.trans h1, h2⟩
noncomputable def biFree (T : Tab) : Prop := ∀ x v, (x, v) ∈ biNames → T.lookup x = none
theorem bn0 : ((Str.ofString "len" : Str), (Value.builtin "len" : Value)) ∈ biNames := .head _
theorem bn1 : ((Str.ofString "bytes" : Str), (Value.type "bytes" : Value)) ∈ biNames := .tail _ (.head _)
theorem bn2 : ((Str.ofString "type" : Str), (Value.type "type" : Value)) ∈ biNames := .tail _ (.tail _ (.head _))
theorem bn3 : ((Str.ofString "range" : Str), (Value.type "range" : Value)) ∈ biNames := .tail _ (.tail _ (.tail _ (.head _)))
theorem bn4 : ((Str.ofString "ValueError" : Str), (Value.type "ValueError" : Value)) ∈ biNames := .tail _ (.tail _ (.tail _ (.tail _ (.head _))))
theorem bn5 : ((Str.ofString "list" : Str), (Value.type "list" : Value)) ∈ biNames := .tail _ (.tail _ (.tail _ (.tail _ (.tail _ (.head _)))))
theorem bn6 : ((Str.ofString "tuple" : Str), (Value.type "tuple" : Value)) ∈ biNames := .tail _ (.tail _ (.tail _ (.tail _ (.tail _ (.tail _ (.head _))))))
theorem TopInv.base (I : TopInv h₀ mg₀ T poss h mg c Pl ps) (B : BootOk h₀ mg₀ mb) (hf : biFree T) : BaseOk (ctxOf T) h mainGlobals builtinsNs mg mb where
  g := I.main.g
  b := isNs_slots B.b fun o ho => ⟨o.slots, I.keep _ _ ho (by decide)⟩
  lim := by obtain ⟨mc, h1, h2⟩ := B.lim; exact ⟨mc, isNs_slots h1 fun o ho => ⟨o.slots, I.keep _ _ ho (by decide)⟩, h2⟩
  sm := by obtain ⟨o, ho⟩ := B.sm; exact ⟨o, I.keep _ _ ho (by decide)⟩
  glob := fun x v hv => by
    have ht := I.tab x
    unfold ctxOf at hv
    simp only at hv
    cases hT : T.lookup x with
    | none =>
      rw [hT] at hv
      simp only at hv
      by_cases q1 : (x == Str.ofString "bytes") = true
      · have hx : x = Str.ofString "bytes" := eq_of_beq q1
        rw [if_pos q1] at hv; cases hv
        exact ⟨_, .inr (I.miss B (x := x) (v := .type "bytes") (hx ▸ bn1) hT), .type _⟩
      · rw [if_neg q1] at hv
        by_cases q2 : (x == Str.ofString "list") = true
        · have hx : x = Str.ofString "list" := eq_of_beq q2
          rw [if_pos q2] at hv; cases hv
          exact ⟨_, .inr (I.miss B (x := x) (v := .type "list") (hx ▸ bn5) hT), .type _⟩
        · rw [if_neg q2] at hv
          by_cases q3 : (x == Str.ofString "tuple") = true
          · have hx : x = Str.ofString "tuple" := eq_of_beq q3
            rw [if_pos q3] at hv; cases hv
            exact ⟨_, .inr (I.miss B (x := x) (v := .type "tuple") (hx ▸ bn6) hT), .type _⟩
          · rw [if_neg q3] at hv; cases hv
    | some t =>
      rw [hT] at hv ht
      cases t with
      | fn => cases hv
      | val w =>
        simp only [Option.some.injEq] at hv
        subst hv
        obtain ⟨u, h1, h2⟩ := ht
        exact ⟨u, .inl h1, h2.mono Gx_in⟩
  fns := fun f fn hv => by
    have ht := I.tab f
    unfold ctxOf at hv
    simp only at hv
    cases hT : T.lookup f with
    | none => rw [hT] at hv; cases hv
    | some t =>
      rw [hT] at hv ht
      cases t with
      | val => cases hv
      | fn a b sc =>
        simp only [Option.some.injEq] at hv
        subst hv
        exact ht.fnOk
  len := I.miss B bn0 (hf _ _ bn0)
  bytes := I.miss B bn1 (hf _ _ bn1)
  type := I.miss B bn2 (hf _ _ bn2)
  range := I.miss B bn3 (hf _ _ bn3)
  ve := I.miss B bn4 (hf _ _ bn4)
theorem TopInv.base0 (I : TopInv h₀ mg₀ T poss h mg c Pl ps) (B : BootOk h₀ mg₀ mb) (hf : biFree T) {f : Str} {b : List Stmt} {sc : Scope} (ht : T.lookup f = some (.fn ⟨[], [], none, [], [], none, []⟩ b sc)) :
    BaseOk (C0 f ⟨[], sc, b⟩) h mainGlobals builtinsNs mg mb :=
  { I.base B hf with
    glob := fun x v hv => by cases hv
    fns := fun g fn hv => by
      unfold C0 at hv
      simp only at hv
      by_cases q : g = f
      · rw [if_pos q] at hv
        cases hv
        have := I.tab f
        rw [ht] at this
        rw [q]
        exact this.fnOk
      · rw [if_neg q] at hv; cases hv }
theorem TopInv.put (I : TopInv h₀ mg₀ T poss h mg c Pl ps) {h' : Heap} {x : Str} {u : Value} {t : TopV} {ps' : Array Value} {poss' : List Pos} (hm : h'.Main (fun y => if y = x then some u else mg y) c Pl ps')
    (k : ∀ b o, b ≠ Pl → b ≠ mainGlobals → h.get? b = some o → h'.get? b = some o) (he : EntOk Pl h' x (some u) (mg₀ x) (some t)) (hp : ∀ q : Pos, (poss'.all fun r => !(r.line == q.line && r.col == q.col)) = true → codeAmong q ps'.toList = none)
    (htri : ps'.size % 3 = 0 ∧ TriplesOk ps'.toList) :
    TopInv h₀ mg₀ ((x, t) :: T) poss' h' (fun y => if y = x then some u else mg y) c Pl ps' := by
  refine ⟨hm, fun b o e hb => k b o (fun q => by subst q; rw [I.pl] at e; cases e) hb (I.keep b o e hb), I.pl, fun y => ?_, hp, htri⟩
  rw [List.lookup_cons]
  by_cases q : y = x
  · subst q
    simp only [beq_self_eq_true, if_true]
    exact he
  · have hb : (y == x) = false := beq_eq_false_iff_ne.mpr q
    simp only [hb, if_neg q]
    exact (I.tab y).mono (Gx_sub k)
end
end Mine
set_option maxRecDepth 100000
set_option linter.unusedVariables false
set_option linter.unusedSimpArgs false
namespace Mine
open PySem PyProof.Rows PySem.W
theorem codeAmong_add {q p : Pos} {c : Value} (l : List Value) (h : TriplesOk l) (hn : codeAmong q l = none) (hp : (p.line == q.line && p.col == q.col) = false) : codeAmong q (l ++ [rawInt p.line, rawInt p.col, c]) = none := by
  fun_induction TriplesOk l with
  | case1 =>
    show codeAmong q [rawInt p.line, rawInt p.col, c] = none
    unfold codeAmong rawInt
    simp only
    rw [if_neg]
    · unfold codeAmong; rfl
    · intro w
      simp only [Bool.and_eq_true, beq_iff_eq] at w
      have h1 : p.line = q.line := by omega
      have h2 : p.col = q.col := by omega
      rw [h1, h2] at hp
      simp at hp
  | case2 a ta b tb c' rest ih =>
    unfold codeAmong at hn
    show codeAmong q (.int a ta :: .int b tb :: c' :: (rest ++ [rawInt p.line, rawInt p.col, c])) = none
    unfold codeAmong
    split at hn
    · cases hn
    · rename_i hne
      rw [if_neg hne]
      exact ih h hn
  | case3 => exact h.elim
theorem Main.store {h h' : Heap} {mg : Str → Option Value} {c Pl : Addr} {ps : Array Value} (m : h.Main mg c Pl ps) {x : Str} {u : Value} (hx : x ≠ "__builtins__") (ns : h'.Ns mainGlobals (fun y => if y = x then some u else mg y)) (sb : Heap.SameBut mainGlobals h h') :
    h'.Main (fun y => if y = x then some u else mg y) c Pl ps :=
  ⟨ns, m.code.sameBut sb (Nat.ne_of_gt m.low.1) (Nat.ne_of_gt m.low.2), m.low, let ⟨bm, o, a, b, d, e, f, r⟩ := m.bmod; ⟨bm, o, by simp only [Ne.symm hx, if_false]; exact a, b, d, e, (sb.2 _ d).trans f, r⟩⟩
section
variable {prog : Program} {w : World} {A : Around} {E : Value → Shared → Prop} {env : Env} {Pl : Addr}
noncomputable def There (Pl : Addr) (h : Heap) : Prop := (∃ o, h.get? Pl = some o) ∧ ∃ o, h.get? mainGlobals = some o
theorem There.keeps {h h' : Heap} (t : There Pl h) (k : ∀ b o, h.get? b = some o → h'.get? b = some o) : There Pl h' := let ⟨⟨o, a⟩, p, b⟩ := t; ⟨⟨o, k _ _ a⟩, p, k _ _ b⟩
theorem There.new {h : Heap} (t : There Pl h) (o : Obj) (hf : o.isFreed = false := by rfl) : Gx Pl (h.push o) h.objs.size = some o := by
  have hn : h.get? h.objs.size = none := Heap.get?_none_of_le (Nat.le_refl _)
  obtain ⟨⟨o1, a⟩, o2, b⟩ := t
  exact Gx_at (Heap.get?_push_size _ hf) (fun q => by rw [← q, hn] at a; cases a) (fun q => by rw [← q, hn] at b; cases b)
theorem vals_ok {f : Expr → Option PV} (hf : ∀ (e : Expr) (v : PV) (s : Shared) (Q : Value → Shared → Prop), f e = some v → There Pl s.heap →
      (∀ u h' tk, (∀ b o, s.heap.get? b = some o → h'.get? b = some o) → Rep (Gx Pl h') u v → Q u { s with heap := h', toks := tk }) → wpAny (model prog w) A (eval e env) Q E s) (hst : ∀ e v, f e = some v → isStar e = false) (pos : Pos) :
    ∀ (es : List Expr) (vs : List PV) (s : Shared) (Q : List Value → Shared → Prop), valsOf f es = some vs → There Pl s.heap →
      (∀ us h' tk, (∀ b o, s.heap.get? b = some o → h'.get? b = some o) → RepL (Gx Pl h') us vs → us.length = es.length → Q us { s with heap := h', toks := tk }) → wpAny (model prog w) A (spliced (backTo pos (starEach es env))) Q E s
  | [], vs, s, Q, h, _, hQ => by
    cases h
    exact wpAny_items_nil (hQ [] s.heap s.toks (fun _ _ e => e) .nil rfl)
  | e :: es, vs, s, Q, h, ht, hQ => by
    unfold valsOf at h
    cases he : f e with
    | none => rw [he] at h; cases h
    | some v =>
      cases hr : valsOf f es with
      | none => rw [he, hr] at h; cases h
      | some vs' =>
        rw [he, hr] at h
        simp only [Option.some.injEq] at h
        subst h
        refine wpAny_items_cons (hf e v s _ he ht fun u h' tk k hu => ?_) (star_one (hst e v he) es)
        exact vals_ok hf hst pos es vs' { s with heap := h', toks := tk } _ hr (ht.keeps k) fun us h'' tk' k' hus hl => hQ (u :: us) h'' tk' (fun b o q => k' b o (k b o q)) (.cons (hu.mono (Gx_sub fun b o _ _ q => k' b o q)) hus) (by simp [hl])
theorem valOf_star : ∀ (n : Nat) (e : Expr) (v : PV), valOf n e = some v → isStar e = false := by
  intro n e v h
  cases e <;> first | rfl | (cases n <;> exact noSome h)
theorem val_ok : ∀ (n : Nat) (e : Expr) (v : PV) (s : Shared) (Q : Value → Shared → Prop), valOf n e = some v → There Pl s.heap →
    (∀ u h' tk, (∀ b o, s.heap.get? b = some o → h'.get? b = some o) → Rep (Gx Pl h') u v → Q u { s with heap := h', toks := tk }) → wpAny (model prog w) A (eval e env) Q E s := by
  intro n
  induction n with
  | zero => intro e v s Q h; cases e <;> exact noSome h
  | succ n ih =>
    intro e v s Q h ht hQ
    cases e with
    | Constant c k p =>
      change constP c = some v at h
      cases c <;> first | exact noSome h | skip
      all_goals cases (Option.some.inj h)
      · exact fun _ _ _ => hQ _ s.heap s.toks (fun _ _ e => e) .none
      · exact fun _ _ _ => hQ _ s.heap s.toks (fun _ _ e => e) (.bool _)
      · exact fun _ _ _ => hQ _ s.heap (s.toks + 1) (fun _ _ e => e) (.int _ _)
      · exact fun _ _ _ => hQ _ s.heap (s.toks + 1) (fun _ _ e => e) (.str _ _)
      · exact fun _ _ _ => hQ _ s.heap (s.toks + 1) (fun _ _ e => e) (.bytes _ _)
    | UnaryOp op x p' =>
      obtain ⟨i, k, p, rfl, rfl, rfl⟩ : ∃ i k p, op = .USub ∧ x = .Constant (.int i) k p ∧ v = .int (-i) := by
        cases op with
        | USub =>
          cases x with
          | Constant c k p =>
            cases c with
            | int i => exact ⟨i, k, p, rfl, rfl, (Option.some.inj (show some (PV.int (-i)) = some v from h)).symm⟩
            | _ => exact noSome h
          | _ => exact noSome h
        | _ => exact noSome h
      show wpAny _ A (do let v ← eval (.Constant (.int i) k p) env; standAt p'; holding [v] (unaryOp .USub v)) _ _ _
      refine wpAny_bind (wpAny_Constant_int (wpAny_bind (wpAny_standAt (wpAny_holding ?_))))
      exact neg_int (hQ _ s.heap (s.toks + 1 + 1) (fun _ _ e => e) (.int _ _))
    | Tuple es k p =>
      change (if es.length ≤ 100 then (valsOf (valOf n) es).map .tuple else none) = some v at h
      split at h
      · rename_i hl
        cases hr : valsOf (valOf n) es with
        | none => rw [hr] at h; cases h
        | some vs =>
          rw [hr] at h
          simp only [Option.map_some, Option.some.injEq] at h
          subst h
          refine wpAny_Tuple (vals_ok (Pl := Pl) (fun e v s Q => ih e v s Q) (valOf_star n) p es vs s _ hr ht fun us h' tk k hus hlen => ⟨?_, ?_⟩)
          · rw [hlen, sizeLine_eq]; (exact (linL [_] [.l 1 (.v 0) (.n 100)] 1 (.v 0) (.n 16777216) rfl hl))
          · refine hQ _ _ tk (fun b o q => Heap.get?_push_of_some _ (k b o q)) (.tuple ((ht.keeps k).new _) rfl rfl (hus.mono (Gx_sub fun b o _ _ q => Heap.get?_push_of_some _ q)))
      · cases h
    | _ => exact noSome h
theorem toGx_at {G : GM} {h : Heap} (g : GIn G h) (hP : ∃ o vs, h.get? Pl = some o ∧ o.data = .fields vs) (hM : ∃ o es ep, h.get? mainGlobals = some o ∧ o.data = .dict es ep) {a : Addr} {o : Obj} {vs : Array Value} {n : Nat} (e : G a = some o) (d : o.data = .seq vs n) : Gx Pl h a = some o :=
  Gx_at (g _ _ e) (fun q => by obtain ⟨o, vs, h1, h2⟩ := hP; rw [← q, g _ _ e] at h1; cases h1; rw [d] at h2; cases h2) (fun q => by obtain ⟨o, es, ep, h1, h2⟩ := hM; rw [← q, g _ _ e] at h1; cases h1; rw [d] at h2; cases h2)
theorem Rep.toGx {G : GM} {h : Heap} (g : GIn G h) (hP : ∃ o vs, h.get? Pl = some o ∧ o.data = .fields vs) (hM : ∃ o es ep, h.get? mainGlobals = some o ∧ o.data = .dict es ep) {v : Value} {p : PV} (k : Rep G v p) : Rep (Gx Pl h) v p :=
  Rep.rec (motive_1 := fun v x _ => Rep (Gx Pl h) v x) (motive_2 := fun vs xs _ => RepL (Gx Pl h) vs xs) .none .bool .int .str .bytes .type (fun e c d _ r => .tuple (toGx_at g hP hM e d) c d r) (fun e c n d _ r => .list (toGx_at g hP hM e d) c n d r) .nil (fun _ _ h r => .cons h r) k
inductive CaForm (f : Str) : Stmt → Prop
  | mk (x : Str) (px p1 p2 p3 : Pos) : CaForm f (.Assign [.Name x px] (.Call (.Name f p1) [] [] p2) p3)
theorem callOf_some {st : Stmt} {f : Str} (h : callOf st = some f) : CaForm f st := by
  cases st with
  | Assign ts e p3 =>
    rcases ts with _ | ⟨t, ts⟩
    · exact noSome h
    cases t with
    | Name x px =>
      rcases ts with _ | ⟨_, _⟩
      rotate_left
      · exact noSome h
      cases e with
      | Call fe as ks p2 =>
        cases fe with
        | Name g p1 =>
          rcases as with _ | ⟨_, _⟩
          rotate_left
          · exact noSome h
          rcases ks with _ | ⟨_, _⟩
          rotate_left
          · exact noSome h
          cases Option.some.inj (show some g = some f from h)
          exact .mk ..
        | _ => exact noSome h
      | _ => exact noSome h
    | _ => exact noSome h
  | _ => exact noSome h
end
section
variable {prog : Program} {w : World} {A : Around} {E : Value → Shared → Prop} {h₀ : Heap} {mg₀ mb : Str → Option Value} {c Pl F : Addr} {tv : PV}
theorem not_keep {x : Str} (h : (!keepNames.contains x) = true) : x ≠ "__builtins__" := fun q => by subst q; revert h; decide
theorem store_top {T : Tab} {poss : List Pos} {mg : Str → Option Value} {ps : Array Value} {s : Shared} {x : Str} {u : Value} {v : PV} {Q : Unit → Shared → Prop} (hmod : prog.main.scope.kind = .module) (hloc : prog.main.scope.names.lookup x = some .local) (hx : x ≠ "__builtins__")
    (I : TopInv h₀ mg₀ T poss s.heap mg c Pl ps) (hu : Rep (Gx Pl s.heap) u v)
    (hQ : ∀ h', TopInv h₀ mg₀ ((x, .val v) :: T) poss h' (fun y => if y = x then some u else mg y) c Pl ps → Q () { s with heap := h', toks := s.toks + 1 }) : wpAny (model prog w) A (storeName (mainEnv prog c F) x u) Q E s := by
  refine wpAny_storeName_local (env := mainEnv prog c F) hloc I.main.g (fun h' ns sb => hQ h' ?_) (by show (prog.main.scope.kind == .class || (prog.main.scope.kind == .module && mainGlobals != mainGlobals)) = false; rw [hmod]; rfl)
  have k : ∀ b o, b ≠ Pl → b ≠ mainGlobals → s.heap.get? b = some o → h'.get? b = some o := fun b o _ hb e => (sb.2 b hb).trans e
  exact I.put (Main.store I.main hx ns sb) k ⟨u, rfl, hu.mono (Gx_sub k)⟩ I.pos I.tri
theorem TopInv.keeps {T : Tab} {poss : List Pos} {mg : Str → Option Value} {ps : Array Value} {h h' : Heap} (I : TopInv h₀ mg₀ T poss h mg c Pl ps) (k : ∀ b o, h.get? b = some o → h'.get? b = some o) : TopInv h₀ mg₀ T poss h' mg c Pl ps :=
  ⟨I.main.keeps k, fun b o e hb => k _ _ (I.keep b o e hb), I.pl, fun x => (I.tab x).mono (Gx_sub fun b o _ _ e => k b o e), I.pos, I.tri⟩
theorem TopInv.there {T : Tab} {poss : List Pos} {mg : Str → Option Value} {ps : Array Value} {h : Heap} (I : TopInv h₀ mg₀ T poss h mg c Pl ps) : There Pl h := by
  refine ⟨?_, ?_⟩
  · obtain ⟨o, vs, file, tf, flags, tg, inF, text, tt, op, _, _, _, _, _, _, _, h2, _⟩ := I.main.code; exact ⟨op, h2⟩
  · obtain ⟨o, _, _, ho, _⟩ := ns_get I.main.g; exact ⟨o, ho⟩
theorem biFree_cons {T : Tab} {x : Str} {t : TopV} (hf : biFree T) (h : (!keepNames.contains x) = true) : biFree ((x, t) :: T) := by
  intro y v hy
  rw [List.lookup_cons]
  have : (y == x) = false := by
    refine beq_eq_false_iff_ne.mpr fun q => ?_
    subst q
    have : keepNames.contains y = true := by
      simp only [biNames, List.mem_cons, Prod.mk.injEq, List.not_mem_nil, or_false] at hy
      rcases hy with ⟨rfl, _⟩ | ⟨rfl, _⟩ | ⟨rfl, _⟩ | ⟨rfl, _⟩ | ⟨rfl, _⟩ | ⟨rfl, _⟩ | ⟨rfl, _⟩ <;> decide
    rw [this] at h; cases h
  rw [this]
  exact hf y v hy
inductive TopForm : Stmt → Prop
  | asg (x : Str) (px : Pos) (e : Expr) (p : Pos) : TopForm (.Assign [.Name x px] e p)
  | fn (name : Str) (a : Arguments) (b : List Stmt) (sc : Scope) (bind : Str) (pos : Pos) : TopForm (.FunctionDef name a b [] none [] sc none bind pos)
theorem top_form {poss : List Pos} {st : Stmt} (h : okB prog poss st = true) : TopForm st := by
  cases st with
  | Assign ts e p =>
    rcases ts with _ | ⟨t, ts⟩
    · exact noTrue h
    cases t with
    | Name x px =>
      rcases ts with _ | ⟨_, _⟩
      · exact .asg ..
      · exact noTrue h
    | _ => exact noTrue h
  | FunctionDef name a b d r tp sc tc bind pos =>
    rcases d with _ | ⟨_, _⟩
    rotate_left
    · exact noTrue h
    rcases r with _ | _
    rotate_left
    · exact noTrue h
    rcases tp with _ | ⟨_, _⟩
    rotate_left
    · exact noTrue h
    rcases tc with _ | _
    rotate_left
    · exact noTrue h
    exact .fn ..
  | _ => exact noTrue h
theorem top_call (hmod : prog.main.scope.kind = .module) (B : BootOk h₀ mg₀ mb) (hA : A.handled = none ∧ A.depth + 60 < recursionLimit ∧ A.units + 4 * 60 + 40 < cLine) {T : Tab} {poss : List Pos} {mg : Str → Option Value} {ps : Array Value} {s : Shared} {st : Stmt} {Q : Flow → Shared → Prop}
    (hf : biFree T) (I : TopInv h₀ mg₀ T poss s.heap mg c Pl ps) (ok : okB prog poss st = true) (okc : ∀ f, callOf st = some f → ∃ b sc, (f == Str.ofString "__debug__") = false ∧ T.lookup f = some (.fn ⟨[], [], none, [], [], none, []⟩ b sc) ∧ (ev (C0 f ⟨[], sc, b⟩) 60).cl f [] = .ok tv) {f : Str} (hcall : callOf st = some f)
    (hQ : ∀ mg' ps' h' tk, biFree (addSt tv T st) → TopInv h₀ mg₀ (addSt tv T st) (posOf st ++ poss) h' mg' c Pl ps' → Q .next { s with heap := h', toks := tk }) : wpAny (model prog w) A (exec st (mainEnv prog c F)) Q E s := by
  cases callOf_some hcall with | mk x px p1 p2 p3 =>
  obtain ⟨b, sc, hdbg, hT, hev⟩ := okc f hcall
  have ok := Bool.and_eq_true_iff.mp (show (prog.main.scope.names.lookup x == some .local && !keepNames.contains x && ((isCall0 (.Call (.Name f p1) [] [] p2)).isSome || (valOf 8 (.Call (.Name f p1) [] [] p2)).isSome)) = true from ok)
  have ok1 := Bool.and_eq_true_iff.mp ok.1
  have hx := not_keep ok1.2
  have hloc : prog.main.scope.names.lookup x = some .local := eq_of_beq ok1.1
  have B0 := I.base0 B hf hT
  obtain ⟨ad, hm, hok⟩ := B0.fns f ⟨[], sc, b⟩ (by simp [C0])
  obtain ⟨o, fd, ho, hd, _⟩ := hok.there
  refine wpAny_Assign_Name ?_ rfl
  refine wpAny_Call_NameR (Calls.Name_module hmod rfl (Calls.loadGlobal_global I.main.g hm ?_) hdbg)
  refine Calls.callWith_function (o := o) (fd := fd) (evalArgs_kw_nil rfl (wpAny_evalAll_nil ⟨⟨ho, hd⟩, wpAny_call ?_⟩))
  refine codeAny_mono ((snd (prog := prog) (w := w) B0 60).1.cl (F := []) (G := s.heap.get?) (us := []) (vs := []) (f := f) ⟨hA.1, hA.2.1, hA.2.2, fun q => by cases q⟩ (fun _ _ e => e) (fun _ _ e => e) trivial (fun a ha => by simp [framesOf] at ha) (by simp [C0]) hok .nil (by rw [hev]; exact fun q => by cases q)) fun r s' hr => ?_
  cases r with
  | error e => obtain ⟨q, _⟩ := hr; rw [hev] at q; cases q
  | ok fl =>
    cases fl with
    | ret v =>
      obtain ⟨p, G', h', tk, e1, rfl, t, g', gr, hv⟩ := hr
      rw [hev] at e1
      cases e1
      have k : ∀ b o, s.heap.get? b = some o → h'.get? b = some o := fun b o e => t.exact e (by simp [framesOf])
      have I' := I.keeps k
      refine store_top (s := { s with heap := h', toks := tk }) hmod hloc hx I' (Rep.toGx g' ?_ ?_ hv) fun h'' I'' => ?_
      · obtain ⟨o, vs, file, tf, flags, tg, inF, text, tt, op, _, _, _, _, _, _, _, h2, h3, _⟩ := I'.main.code; exact ⟨op, _, h2, h3⟩
      · exact ns_get I'.main.g
      · have e2 : addSt tv T (.Assign [.Name x px] (.Call (.Name f p1) [] [] p2) p3) = (x, .val tv) :: T := rfl
        exact hQ _ _ _ _ (e2 ▸ biFree_cons hf ok1.2) (e2 ▸ I'')
    | _ => exact hr.elim
theorem top_val (hmod : prog.main.scope.kind = .module) (B : BootOk h₀ mg₀ mb) (hA : A.handled = none ∧ A.depth + 60 < recursionLimit ∧ A.units + 4 * 60 + 40 < cLine) {T : Tab} {poss : List Pos} {mg : Str → Option Value} {ps : Array Value} {s : Shared} {x : Str} {px : Pos} {e : Expr} {p : Pos} {Q : Flow → Shared → Prop}
    (hf : biFree T) (I : TopInv h₀ mg₀ T poss s.heap mg c Pl ps) (ok : okB prog poss (.Assign [.Name x px] e p) = true) (hcall : isCall0 e = none)
    (hQ : ∀ mg' ps' h' tk, biFree (addSt tv T (.Assign [.Name x px] e p)) → TopInv h₀ mg₀ (addSt tv T (.Assign [.Name x px] e p)) (posOf (.Assign [.Name x px] e p) ++ poss) h' mg' c Pl ps' → Q .next { s with heap := h', toks := tk }) : wpAny (model prog w) A (exec (.Assign [.Name x px] e p) (mainEnv prog c F)) Q E s := by
  have ok := Bool.and_eq_true_iff.mp (show (prog.main.scope.names.lookup x == some .local && !keepNames.contains x && ((isCall0 e).isSome || (valOf 8 e).isSome)) = true from ok)
  have ok1 := Bool.and_eq_true_iff.mp ok.1
  have hx := not_keep ok1.2
  have hloc : prog.main.scope.names.lookup x = some .local := eq_of_beq ok1.1
  have hc : isCall0 e = none := hcall
  have hv := ok.2
  rw [hc] at hv
  simp only [Option.isSome_none, Bool.false_or] at hv
  obtain ⟨v, hv⟩ := Option.isSome_iff_exists.mp hv
  have e2 : addSt tv T (.Assign [.Name x px] e p) = (x, .val v) :: T := by
    have e3 : entryOf tv (.Assign [.Name x px] e p) = (match isCall0 e with
      | some _ => some (x, .val tv)
      | none => (valOf 8 e).map fun v => (x, .val v)) := rfl
    unfold addSt
    rw [e3, hc, hv]; rfl
  have hsw : swapsWith e (some (.Name x px)) p.line (mainEnv prog c F) = pure false := by
    cases e <;> first | rfl | exact noSome hv
  refine wpAny_Assign_Name (val_ok (Pl := Pl) 8 e v s _ hv I.there fun u h' tk k hu => ?_) hsw
  refine store_top (s := { s with heap := h', toks := tk }) hmod hloc hx (I.keeps k) hu fun h'' I'' => ?_
  exact hQ _ _ _ _ (e2 ▸ biFree_cons hf ok1.2) (e2 ▸ I'')
theorem top_def (hmod : prog.main.scope.kind = .module) (B : BootOk h₀ mg₀ mb) (hA : A.handled = none ∧ A.depth + 60 < recursionLimit ∧ A.units + 4 * 60 + 40 < cLine) {T : Tab} {poss : List Pos} {mg : Str → Option Value} {ps : Array Value} {s : Shared} {name : Str} {a : Arguments} {b : List Stmt} {sc : Scope} {bind : Str} {pos : Pos} {Q : Flow → Shared → Prop}
    (hf : biFree T) (I : TopInv h₀ mg₀ T poss s.heap mg c Pl ps) (ok : okB prog poss (.FunctionDef name a b [] none [] sc none bind pos) = true)
    (hQ : ∀ mg' ps' h' tk, biFree (addSt tv T (.FunctionDef name a b [] none [] sc none bind pos)) → TopInv h₀ mg₀ (addSt tv T (.FunctionDef name a b [] none [] sc none bind pos)) (posOf (.FunctionDef name a b [] none [] sc none bind pos) ++ poss) h' mg' c Pl ps' → Q .next { s with heap := h', toks := tk }) : wpAny (model prog w) A (exec (.FunctionDef name a b [] none [] sc none bind pos) (mainEnv prog c F)) Q E s := by
  replace ok : (bind == name && prog.main.scope.names.lookup name == some .local && !keepNames.contains name && plainArgs a && decide (a.args.map (·.arg)).Nodup &&
      (docOf b).isNone && scopeOk sc && (sc.names.all fun x => x.2 != .free) && poss.all fun r => !(r.line == pos.line && r.col == pos.col)) = true := ok
  simp only [Bool.and_eq_true, Option.isNone_iff_eq_none, decide_eq_true_eq, List.all_eq_true] at ok
  obtain ⟨⟨⟨⟨⟨⟨⟨⟨hb, hloc⟩, hkn⟩, hpa⟩, hnd⟩, hdoc⟩, hsc⟩, hfree⟩, hpos⟩ := ok
  obtain rfl : bind = name := eq_of_beq hb
  have hx := not_keep hkn
  have hloc : prog.main.scope.names.lookup bind = some .local := eq_of_beq hloc
  obtain ⟨hform, hann⟩ := plainArgs_form hpa
  have htree : PlainDefTree bind a b sc pos := by rw [hform]; exact plainTree hann
  have hq : qualnameIn { scope := prog.main.scope, locals := mainGlobals, globals := mainGlobals, cells := [] } bind bind = bind := by
    unfold qualnameIn Env.kindOf
    rw [show List.lookup bind prog.main.scope.names = some .local from hloc]
    rw [if_neg (by decide)]
    exact Str.append_left_empty (x := Str.empty) rfl
  refine wpAny_plainDefN htree (fun x hx => by have := hfree x hx; simpa using this) hdoc hloc hq I.main ?_ hx hmod (I.pos pos (by simpa [List.all_eq_true] using hpos))
  intro ad c' h' tk hge hm' hfo hcd _ keep
  have e2 : addSt tv T (.FunctionDef bind a b [] none [] sc none bind pos) = (bind, .fn a b sc) :: T := rfl
  have hlt : ∀ {z : Addr}, (∃ o, s.heap.get? z = some o) → z < s.heap.objs.size := fun ⟨o, ho⟩ => Heap.lt_size ho
  have hP := hlt I.there.1
  have hM := hlt I.there.2
  obtain ⟨c₂, oc, vs, t, e3, g3, r3⟩ := hcd.2
  cases e3
  refine hQ _ _ h' tk (e2 ▸ biFree_cons hf hkn) (e2 ▸ I.put (t := .fn a b sc) hm' keep ⟨⟨ad, c', _, rfl, Gx_at hfo (Nat.ne_of_gt (Nat.lt_of_lt_of_le hP hge)) (Nat.ne_of_gt (Nat.lt_of_lt_of_le hM hge)), oc, vs, t, Gx_at g3 (Nat.ne_of_gt (Nat.lt_of_lt_of_le hP hcd.1)) (Nat.ne_of_gt (Nat.lt_of_lt_of_le hM hcd.1)), r3.1, r3.2⟩, hpa, hnd, hsc⟩ ?_ ?_)
  · intro q hq
    have hq' : (!(pos.line == q.line && pos.col == q.col)) = true ∧ (poss.all fun r => !(r.line == q.line && r.col == q.col)) = true := by
      have : posOf (.FunctionDef bind a b [] none [] sc none bind pos) ++ poss = pos :: poss := rfl
      rw [this, List.all_cons, Bool.and_eq_true] at hq
      exact hq
    have := codeAmong_add (p := pos) (c := .ref c') ps.toList I.tri.2 (I.pos q hq'.2) (by have := hq'.1; rwa [Bool.not_eq_true'] at this)
    simpa using this
  · refine ⟨by simp only [Array.size_append]; have := I.tri.1; simp; (exact (linE [_] [.q 1 (.v 0) (.n 0)] 1 (.v 0) (.n 0) rfl rfl this)), ?_⟩
    have := TriplesOk_snoc pos.line pos.col (.ref c') ps.toList I.tri.2
    simpa using this
theorem top_step (hmod : prog.main.scope.kind = .module) (B : BootOk h₀ mg₀ mb) (hA : A.handled = none ∧ A.depth + 60 < recursionLimit ∧ A.units + 4 * 60 + 40 < cLine) {T : Tab} {poss : List Pos} {mg : Str → Option Value} {ps : Array Value} {s : Shared} {st : Stmt} {Q : Flow → Shared → Prop}
    (hf : biFree T) (I : TopInv h₀ mg₀ T poss s.heap mg c Pl ps) (ok : StOk prog tv T poss st)
    (hQ : ∀ mg' ps' h' tk, biFree (addSt tv T st) → TopInv h₀ mg₀ (addSt tv T st) (posOf st ++ poss) h' mg' c Pl ps' → Q .next { s with heap := h', toks := tk }) : wpAny (model prog w) A (exec st (mainEnv prog c F)) Q E s := by
  obtain ⟨ok, okc⟩ := ok
  cases hcall : callOf st with
  | some f => exact top_call hmod B hA hf I ok okc hcall hQ
  | none =>
    cases top_form ok with
    | asg x px e p => exact top_val hmod B hA hf I ok hcall hQ
    | fn name a b sc bind pos => exact top_def hmod B hA hf I ok hQ
theorem top_walk (hmod : prog.main.scope.kind = .module) (B : BootOk h₀ mg₀ mb) (hA : A.handled = none ∧ A.depth + 60 < recursionLimit ∧ A.units + 4 * 60 + 40 < cLine) : ∀ (body : List Stmt) {T : Tab} {poss : List Pos} {mg : Str → Option Value} {ps : Array Value} {s : Shared} {Q : Flow → Shared → Prop},
    biFree T → TopInv h₀ mg₀ T poss s.heap mg c Pl ps → TopOk prog tv T poss body →
    (∀ poss' mg' ps' h' tk, biFree (body.foldl (addSt tv) T) → TopInv h₀ mg₀ (body.foldl (addSt tv) T) poss' h' mg' c Pl ps' → Q .next { s with heap := h', toks := tk }) → wpAny (model prog w) A (execs body (mainEnv prog c F)) Q E s
  | [], T, poss, mg, ps, s, Q, hf, I, _, hQ => wpAny_execs_nil (hQ poss mg ps s.heap s.toks hf I)
  | st :: r, T, poss, mg, ps, s, Q, hf, I, ok, hQ =>
    wpAny_execs_cons (top_step hmod B hA hf I ok.1 fun mg' ps' h' tk hf' I' => top_walk hmod B hA r (s := { s with heap := h', toks := tk }) hf' I' ok.2 fun poss'' mg'' ps'' h'' tk'' hf'' I'' => hQ poss'' mg'' ps'' h'' tk'' hf'' I'')
end
end Mine
set_option maxRecDepth 100000
set_option linter.unusedVariables false
set_option linter.unusedSimpArgs false
namespace Mine
open PySem PyProof.Rows PySem.W
section
variable (P : Params)
theorem boot_b : (boot_heap P).isNs builtinsNs = true := by kernel_rfl
theorem boot_g : (boot_heap P).isNs mainGlobals = true := by kernel_rfl
theorem boot_c : (boot_heap P).isNs cStatics = true := by kernel_rfl
theorem boot_keysC : (boot_heap P).nsKeys cStatics = [] := by kernel_rfl
theorem boot_view : (boot_heap P).bltView = bltViewBooted := by kernel_rfl
theorem boot_keysG : ((boot_heap P).nsKeys mainGlobals).all (fun k => startupNames.contains k) = true := by kernel_rfl
theorem boot_sm : ((boot_heap P).get? sysModules).isSome = true := by kernel_rfl
theorem boot_bm : ∃ bm o, (boot_heap P).nsMap mainGlobals "__builtins__" = some (.ref bm) ∧ (bm != builtinsNs && bm != mainGlobals) = true ∧ (boot_heap P).get? bm = some o ∧ o.cls = .type "module" ∧ o.dict = some builtinsNs ∧ o.data = .plain :=
  ⟨4, { cls := .type "module", dict := some builtinsNs }, by kernel_rfl, by kernel_rfl, by kernel_rfl, by kernel_rfl, by kernel_rfl, by kernel_rfl⟩
theorem boot_hit : ∀ x v, (x, v) ∈ biNames → (boot_heap P).nsMap mainGlobals x = none ∧ (boot_heap P).nsMap builtinsNs x = some v := by
  intro x v h
  simp only [biNames, List.mem_cons, Prod.mk.injEq, List.not_mem_nil, or_false] at h
  rcases h with ⟨rfl, rfl⟩ | ⟨rfl, rfl⟩ | ⟨rfl, rfl⟩ | ⟨rfl, rfl⟩ | ⟨rfl, rfl⟩ | ⟨rfl, rfl⟩ | ⟨rfl, rfl⟩ <;> exact ⟨by kernel_rfl, by kernel_rfl⟩
theorem boot_ok : BootOk (boot_heap P) ((boot_heap P).nsMap mainGlobals) ((boot_heap P).nsMap builtinsNs) :=
  ⟨.of_isNs (boot_b P), ⟨_, .of_isNs (boot_c P), Heap.nsMap_none (by rw [boot_keysC]; simp)⟩, Option.isSome_iff_exists.mp (boot_sm P), boot_hit P⟩
end
theorem top_reach {prog : Program} {w : World} {t : Sem Fin} {s : Shared} {R : Shared → Prop} (hreg : s.asleep)
    (h : wpAny (model prog w) callerA t (fun fin s' => (∃ f, fin = .done f) ∧ R s' ∧ s'.gens = #[]) (fun _ _ => False) s) :
    ∃ n σ p f, schedN (denote table) prog w n (.single s ⟨t, .builtin "claim.caller" {}, default, []⟩) = .running (.single σ ⟨.pure (.done f), .builtin "claim.caller" {}, p, []⟩) ∧ R σ ∧ σ.gens = #[] ∧ σ.heap.life = s.heap.life := by
  have h1 := wp_of_wpAny_done (R := fun r s' => ((∃ f, r = .ok f) ∧ R s' ∧ s'.gens = #[]) ∧ leftWithCleanup s'.gens = false) caller_in
    (wpAny_mono h (fun fin s' x => by obtain ⟨⟨f, rfl⟩, hR, hg⟩ := x; exact ⟨f, rfl, ⟨⟨f, rfl⟩, hR, hg⟩, by rw [hg]; simp [leftWithCleanup]⟩) fun _ _ x => x.elim) default
  obtain ⟨n, r, s₁, hn, _⟩ := (wp_iff_halts (M := model prog w) (R := fun r s' => (∃ f, r = .ok f) ∧ R s' ∧ s'.gens = #[]) ..).mp h1
  obtain ⟨s₂, hr, hf, hc⟩ := runNI_real _ _ _ hn (outcomeOf_ends r)
  have hseq : Sequential (denote table) prog w s ⟨t, .builtin "claim.caller" {}, default, []⟩ := by
    refine ⟨hc, fun k s₃ hk => ?_⟩
    have a := runN_mono (denote table) prog w n k s _ _ s₂ hr
    have b := runN_mono (denote table) prog w k n s _ _ s₃ hk
    rw [Nat.add_comm, b] at a
    injection a with a1 _
    have := outcomeOf_ends r
    rw [← a1] at this
    simp [Outcome.ends] at this
  obtain ⟨m, s', σ, p', leaf, hrun, hfo, hl⟩ := wp_reaches (M := model prog w) (c := .builtin "claim.caller" {}) (h _ default caller_in)
  rcases hl with ⟨a, rfl, ⟨f, rfl⟩, hR, hg⟩ | ⟨e, _, hF⟩
  · obtain rfl := Shared.eq_of_forget_eq hfo hg
    refine ⟨m, σ, p', f, ?_, hR, hg, runN_life_running hrun⟩
    rw [schedN_eq_runN (denote table) prog w s _ hreg hseq m]
    exact congrArg Run.lift hrun
  · exact hF.elim
end Mine
set_option maxRecDepth 100000
set_option linter.unusedVariables false
set_option linter.unusedSimpArgs false
namespace Mine
open PySem PyProof.Rows PySem.W
theorem wellAll_ints {P : Params} {h : Heap} {G : GM} : ∀ {vs : List Value} {ns : List Int}, WellAll P h vs (ns.map .int) → RepL G vs (ns.map .int)
  | [], [], _ => .nil
  | _ :: _, [], h => by cases h
  | [], _ :: _, h => by cases h
  | v :: vs, n :: ns, h => by
    cases h with | cons a r => cases a with | int i t => exact .cons (.int _ _) (wellAll_ints r)
theorem law_args {l : OpenLaw} (hm : l.most = some 63) (hb : l.bound = none) {args : List WData} (h : l.row.toRowW.claim.pre args = true) : ∃ ns : List Int, args = [.list (ns.map .int)] ∧ ns.length ≤ 63 := by
  obtain ⟨h1, h2⟩ := pre_splitW h
  obtain ⟨d, r, rfl, hd, hr⟩ := hasAllW_cons h1
  obtain rfl := hasAllW_nil hr
  obtain ⟨xs, rfl, hx⟩ := hasW_list hd
  obtain ⟨ns, rfl⟩ := items_int hx
  refine ⟨ns, rfl, ?_⟩
  change l.pre.holds _ _ = true at h2
  unfold OpenLaw.pre at h2
  rw [hm, hb] at h2
  by_cases q : ns.length ≤ 63
  · exact q
  · exfalso
    have hlt : decide ((63 : Int) < (ns.length : Int)) = true := by simp; omega
    have hlt' : (63 : Int) < (ns.length : Int) := by omega
    simp [WTm.holds, WTm.value, less?, Num.less?, hlt'] at h2
inductive TopLeft (P : Params) (os : OsState) (T : Tab) (s : Shared) : Prop
  | mk (e : s.os = os) (f : biFree T) (poss : List Pos) (mg : Str → Option Value) (c Pl : Addr) (ps : Array Value) (I : TopInv (boot_heap P) ((boot_heap P).nsMap mainGlobals) T poss s.heap mg c Pl ps)
theorem top_left {prog : Program} {w : World} {tv : PV} (hmod : prog.main.scope.kind = .module) (hann : hasAnns (behindTheImports prog) = false) (hdoc : docOf (behindTheImports prog) = none) (htop : TopOk prog tv [] [] (behindTheImports prog))
    {s₀ : Shared} (hz : s₀.asleep) (hh : s₀.heap = boot_heap w.params) (hg : s₀.gens = #[]) :
    ∃ n σ t, schedN (denote table) prog w n (.single s₀ (topStub prog)) = .running (.single σ t) ∧ through t = true ∧ TopLeft w.params s₀.os (tabOf tv (behindTheImports prog)) σ ∧ σ.gens = #[] ∧ σ.heap.life = s₀.heap.life := by
  have key := top_reach (prog := prog) (w := w) (t := (topStub prog).cur) (s := s₀) (R := fun s => TopLeft w.params s₀.os (tabOf tv (behindTheImports prog)) s) hz ?_
  · obtain ⟨n, σ, p, f, h1, h2, h3, h4⟩ := key
    exact ⟨n, σ, _, h1, rfl, h2, h3, h4⟩
  · obtain ⟨heap, gens, drawn, toks, os⟩ := s₀
    simp only at hh hg
    subst hh hg
    refine wpAny_bind (wpAny_moduleCode fun c Pl h₁ tk hk hc hPl hcode => ?_)
    have hns : (boot_heap w.params).Ns mainGlobals ((boot_heap w.params).nsMap mainGlobals) := .of_isNs (boot_g _)
    have hlt : mainGlobals < (boot_heap w.params).objs.size := hns.lt
    have hPn : (boot_heap w.params).get? Pl = none := Heap.get?_none_of_le hPl
    obtain ⟨bm, o, b1, b2, b3, b4, b5, b6⟩ := boot_bm w.params
    simp only [Bool.and_eq_true, bne_iff_ne] at b2
    have main₁ : h₁.Main ((boot_heap w.params).nsMap mainGlobals) c Pl #[] :=
      ⟨hns.keeps hk, hcode, ⟨Nat.lt_of_lt_of_le hlt hc, Nat.lt_of_lt_of_le hlt hPl⟩, ⟨bm, o, b1, b2.1, b2.2, fun q => (by rw [q, hPn] at b3; cases b3), hk _ _ b3, b4, b5, b6⟩⟩
    unfold newBodyFrame
    refine wpAny_bind (wpAny_bind (wpAny_nsGet main₁.g (wpAny_alloc ?_)))
    refine wpAny_bind (wpAny_run (codeAny_body hann hdoc ?_))
    have inv : ∀ fo : Obj, TopInv (boot_heap w.params) ((boot_heap w.params).nsMap mainGlobals) [] [] (h₁.push fo) ((boot_heap w.params).nsMap mainGlobals) c Pl #[] := fun fo =>
      ⟨main₁.keeps fun _ _ e => Heap.get?_push_of_some _ e, fun b o e _ => Heap.get?_push_of_some _ (hk b o e), hPn, fun x => rfl, fun q _ => rfl, rfl, trivial⟩
    refine top_walk (prog := prog) (w := w) (F := h₁.objs.size) (s := ⟨h₁.push _, #[], drawn, tk, os⟩) (tv := tv) hmod (boot_ok w.params) ⟨rfl, by show 1 + claimMargin + 1 + 60 < recursionLimit; decide, by show 4 + 3 + 4 * 60 + 40 < cLine; decide⟩ (behindTheImports prog) (fun x v _ => rfl) (inv _) htop ?_
    intro poss' mg' ps' h' tk' hf I
    exact wpAny_pure ⟨⟨_, rfl⟩, ⟨rfl, hf, poss', mg', c, Pl, ps', I⟩, rfl⟩
theorem TopLeft.topRan {prog : Program} {w : World} {T : Tab} {s₀ σ : Shared} (hmods : importedModules prog.main.body = importedModules prog.main.body) (L : TopLeft w.params s₀.os T σ) (hh : s₀.heap = boot_heap w.params) (hg : σ.gens = #[]) (hl : σ.heap.life = s₀.heap.life)
    (hrun : ∃ n t, schedN (denote table) prog w n (.single s₀ (topStub prog)) = .running (.single σ t) ∧ through t = true)
    (hkeys : (T.all fun e => prog.boundNames.contains e.1 && !laidNames.contains e.1) = true) : TopRan prog w s₀ σ := by
  obtain ⟨hos, hf, poss, mg, c, Pl, ps, I⟩ := L
  have keyOk : ∀ x, (T.lookup x).isSome = true → x ∈ prog.boundNames ∧ x ∉ laidNames := by
    intro x hx
    obtain ⟨e, h1, h2⟩ : ∃ e ∈ T, e.1 = x := by
      clear hkeys I hf
      induction T with
      | nil => cases hx
      | cons e U ih =>
        obtain ⟨y, t⟩ := e
        rw [List.lookup_cons] at hx
        by_cases q : (x == y) = true
        · exact ⟨_, .head _, (eq_of_beq q).symm⟩
        · have q' : (x == y) = false := by simpa using q
          rw [q'] at hx
          obtain ⟨e, h1, h2⟩ := ih hx
          exact ⟨e, .tail _ h1, h2⟩
    have := List.all_eq_true.mp hkeys e h1
    simp only [Bool.and_eq_true, Bool.not_eq_true', List.contains_iff_mem] at this
    rw [h2] at this
    refine ⟨this.1, fun q => ?_⟩
    have h3 := this.2
    rw [List.contains_iff_mem.mpr q] at h3; cases h3
  have hns := I.main.g
  have keep : ∀ b o, s₀.heap.get? b = some o → b ≠ mainGlobals → σ.heap.get? b = some o := fun b o e => I.keep b o (hh ▸ e)
  have hcS : σ.heap.get? cStatics = s₀.heap.get? cStatics := by
    obtain ⟨o, es, ep, ho, _⟩ := ns_get (Heap.Ns.of_isNs (boot_c w.params))
    rw [← hh] at ho
    rw [ho, keep _ _ ho (by decide)]
  have hstat : ∀ k, staticOf σ.heap k = staticOf s₀.heap k := fun k => by unfold staticOf; rw [hcS]
  have hstat0 : ∀ k, staticOf s₀.heap k = none := fun k => by rw [hh, Pin.staticOf_eq (boot_c w.params)]; exact Heap.nsMap_none (by rw [boot_keysC]; simp)
  have hglob : ∀ x, globalOf σ.heap x = mg x := Claim2Try.globalOf_of_ns hns
  have hglob0 : ∀ x, globalOf s₀.heap x = (boot_heap w.params).nsMap mainGlobals x := fun x => by rw [hh]; exact Claim2Try.globalOf_of_ns (.of_isNs (boot_g _)) x
  have old : ∀ x, T.lookup x = none → mg x = (boot_heap w.params).nsMap mainGlobals x := fun x hx => by have := I.tab x; rw [hx] at this; exact this
  refine ⟨hrun, hl, Shared.rest_eq hos, fun b o e hn => keep b o e fun q => hn (.inl q), ?_, fun k => .inl (hstat k), ?_, ?_, ?_, ?_, ?_, ?_⟩
  · intro k v hv
    rw [hstat, hstat0] at hv; cases hv
  · obtain ⟨o, es, ep, ho, hd, hk, _⟩ := hns
    exact ⟨o, es, ep, ho, hd, hk⟩
  · intro x hx
    obtain ⟨o, es, ep, ho, hd⟩ := ns_get (Heap.Ns.of_isNs (boot_b w.params))
    have e1 : builtinOf σ.heap x = builtinOf (boot_heap w.params) x := by
      unfold builtinOf
      rw [ho, I.keep _ _ ho (by decide)]
    rw [e1]
    exact (Pin.builtinOf_eq (boot_b w.params) x).trans (Heap.of_bltView (boot_b w.params) (boot_view w.params) x hx)
  · obtain ⟨bm, o, b1, b2, b3, b4, b5, b6, b7, b8⟩ := I.main.bmod
    exact ⟨bm, o, (hglob _).trans b1, b5, b6, b7⟩
  · rw [hg]; intro g hg'; simp at hg'
  · intro x v hx
    rw [hglob] at hx
    cases hT : T.lookup x with
    | some t => exact .inr (keyOk x (by rw [hT]; rfl)).1
    | none =>
      rw [old x hT] at hx
      refine .inl ?_
      by_cases hk : x ∈ (boot_heap w.params).nsKeys mainGlobals
      · have := List.all_eq_true.mp (boot_keysG w.params) x hk
        simpa [List.contains_iff_mem] using this
      · rw [Heap.nsMap_none hk] at hx; cases hx
  · intro x hx
    rw [hglob, hglob0]
    refine old x ?_
    cases hT : T.lookup x with
    | none => rfl
    | some t => exact absurd hx (keyOk x (by rw [hT]; rfl)).2
end Mine
set_option maxRecDepth 100000
set_option linter.unusedVariables false
set_option linter.unusedSimpArgs false
namespace Mine
open PySem PyProof.Rows PySem.W
theorem law_post (l : OpenLaw) (args after : List WData) : l.row.toRowW.claim.post args (.bool true) after = true := by
  show (WShape.has [] (.bool true) .bool && WTm.holds [] (.eq .res (.lit (.bool true))) { args := args, res := some (.bool true), after := after }) = true
  simp [WShape.has, WShape.arms, WTm.holds, WTm.value, same]
theorem head_call {l : OpenLaw} {tv : PV} {a : Arguments} {b : List Stmt} {sc : Scope} {w : World} {s₀ σ : Shared} (hzσ : σ.asleep) (hgσ : σ.gens = #[]) (L : TopLeft w.params s₀.os (tabOf tv (behindTheImports l.prog)) σ)
    (hT : (tabOf tv (behindTheImports l.prog)).lookup l.name = some (.fn a b sc)) (hm : l.most = some 63) (hb : l.bound = none) (hw : l.writes = false)
    (run : ∀ ns : List Int, ns.length ≤ 63 → (ev (ctxOf (tabOf tv (behindTheImports l.prog))) 160).cl l.name [.list (ns.map .int)] = .ok (.bool true)) :
    l.row.toRowW.claim.CallFrom (fun vs => ⟨(callStub l.name vs).cur, .builtin "claim.caller" {}, default, []⟩) w (fun b => l.writes = true ∧ madeByTheTop s₀ σ b) (l.writes = false) (fun h' => l.writes = true → namesKept l.prog l.own σ.heap h' ∧ ∀ x ∈ l.row.records, ∀ a, classAt σ.heap x.1 = some a → recordClass h' a x.1 (x.2.map (·.1)) = true) σ := by
  obtain ⟨hos, hf, poss, mg, c, Pl, ps, I⟩ := L
  have BO := I.base (boot_ok w.params) hf
  have ent := I.tab l.name
  rw [hT] at ent
  obtain ⟨⟨ad, c', pm, u1, u2, oc, vs, tt, u3, u4, u5⟩, hpa, hnd, hsc⟩ := id ent
  refine ClaimW.callFrom_of_specN (c := l.row.toRowW.claim) hzσ (by rw [hgσ]; simp [leftWithCleanup]) fun args hpre hlay ord hord => ?_
  obtain ⟨ns, rfl, hlen⟩ := law_args hm hb hpre
  obtain ⟨⟨vs, s₁⟩, hlaid⟩ := Option.isSome_iff_exists.mp (layAllW_isSome (R := l.row.toRowW.claim.records) (cl := classAt σ.heap) (P := w.params) (ord := ord) (fun c hc => by cases hc) _ l.row.toRowW.args σ (pre_splitW hpre).1)
  have keeps := layAllW_keeps _ _ _ hlaid
  have hal := layAllW_rest _ _ _ hlaid
  obtain ⟨as, hrd, hin, hold⟩ := reads_layAllW hord _ _ _ hlaid hlay s₁.heap (fun _ _ e => e)
  have hwl := well_layAllW hord _ σ _ hlaid s₁.heap fun _ _ e => e
  refine ⟨vs, s₁, hlaid, ?_⟩
  -- the argument
  obtain ⟨v, rfl, hv⟩ : ∃ v, vs = [v] ∧ Well w.params s₁.heap v (.list (ns.map .int)) := by
    cases hwl with | cons a r => cases r with | nil => exact ⟨_, rfl, a⟩
  have hrep : Rep s₁.heap.get? v (.list (ns.map .int)) := by
    cases hv with | list e r => exact .list e rfl rfl rfl (wellAll_ints r)
  have hok : FnOk σ.heap mainGlobals builtinsNs ⟨a.args.map (·.arg), sc, b⟩ ad := by
    obtain ⟨ad', q1, q2⟩ := ent.fnOk
    rw [u1] at q1
    injection q1 with q1
    injection q1 with q1
    subst q1
    exact q2
  have hnsσ := I.main.g.keeps keeps
  have hrun := run ns hlen
  have S := codeAny_mono (R' := fun r s' => match r with | .ok (.ret v) => GoodW l.row.toRowW.claim (classAt σ.heap) (ExcName.means σ.heap) [.list (ns.map .int)] { s₁ with gens := #[] } (.ok (.ret v)) s' | .ok _ => False | .error e => False)
    ((snd (prog := l.prog) (w := w) BO 160).1.cl (A := callerA) (F := []) (G := s₁.heap.get?) (s := { s₁ with gens := #[] }) (f := l.name) (us := [v]) (vs := [.list (ns.map .int)])
      ⟨rfl, by show 1 + claimMargin + 160 < recursionLimit; decide, by show 4 + 4 * 160 + 40 < cLine; decide, fun _ => rfl⟩ (fun _ _ e => e) (fun b o e => keeps b o e) trivial (fun a ha => by simp [framesOf] at ha)
      (by unfold ctxOf; simp only; rw [hT]) hok (.cons hrep .nil) (by rw [hrun]; exact fun q => by cases q)) (fun r s' hr => by
        cases r with
        | error e => obtain ⟨q, _⟩ := hr; rw [hrun] at q; cases q
        | ok fl =>
          cases fl with
          | ret u =>
            obtain ⟨p, G', h', tk, e1, rfl, tr, g', gr, hu⟩ := hr
            rw [hrun] at e1
            cases e1
            cases hu
            exact ⟨.inl ⟨_, .bool true, [], rfl, fun cls => rfl, .bool _, law_post l _ _, fun _ => ⟨List.nodup_nil, fun a ha => by cases ha⟩⟩, fun b o e => tr.exact e (by simp [framesOf]), rfl, rfl⟩
          | _ => exact hr.elim)
  refine wpAny_bind (wpAny_nsGet (s := { s₁ with gens := #[] }) hnsσ ?_)
  rw [u1]
  refine wpAny_bind (wpAny_call (codeAny_mono S fun r s' hr => ?_))
  cases r with
  | error e => exact hr.elim
  | ok fl =>
    cases fl with
    | ret u =>
      refine wpAny_pure ⟨_, rfl, ?_⟩
      have hi := ident_freeW (r := l.row.toRowW) rfl rfl rfl
      have z := GoodW.endsN (c := l.row.toRowW.claim) rfl rfl hi hrd hold hal.2.2.1 hr
      exact ⟨z.1, z.2.1, z.2.2, fun q => by rw [hw] at q; cases q⟩
    | _ => exact hr.elim
theorem head_row {l : OpenLaw} {tv : PV} {a : Arguments} {b : List Stmt} {sc : Scope} (said : l.row.wellSaid = true)
    (hop : opening l.prog = plainProg l.prog.main.scope.names) (hfm : ∀ s, fenceModules? l.prog s = some s) (hbare : l.prog.bare) (hwell : opensWell l.prog = true)
    (hmod : l.prog.main.scope.kind = .module) (hann : hasAnns (behindTheImports l.prog) = false) (hdoc : docOf (behindTheImports l.prog) = none)
    (htop : TopOk l.prog tv [] [] (behindTheImports l.prog)) (hpr : l.row.toRowW.promised)
    (hT : (tabOf tv (behindTheImports l.prog)).lookup l.name = some (.fn a b sc)) (hdef : l.prog.theDef l.name = some (a, b, sc))
    (hkeys : ((tabOf tv (behindTheImports l.prog)).all fun e => l.prog.boundNames.contains e.1 && !laidNames.contains e.1) = true)
    (hm : l.most = some 63) (hb : l.bound = none) (hw : l.writes = false)
    (run : ∀ ns : List Int, ns.length ≤ 63 → (ev (ctxOf (tabOf tv (behindTheImports l.prog))) 160).cl l.name [.list (ns.map .int)] = .ok (.bool true)) : l.row.Holds := by
  refine ⟨said, hpr, ?_⟩
  have hwit : ∃ args, l.row.toRowW.claim.pre args = true ∧ WData.layableAll args = true := by
    obtain ⟨args, h1, h2⟩ := hpr
    exact ⟨args, h1, (Bool.and_eq_true_iff.mp h2).1⟩
  refine ⟨⟨hbare, hwell, rfl⟩, hwit, fun w => ?_⟩
  have h4 := boot_open (p := l.prog) (N := 600) hop rfl hfm w
  rw [← table_eq_tree] at h4
  obtain ⟨s₀, h2, hs₀⟩ := Option.map_eq_some_iff.mp h4
  obtain ⟨s, h5, h6⟩ := Option.bind_eq_some_iff.mp h2
  have AI := AfterImport.of_importEnds h5
  refine ⟨⟨s, AI⟩, fun s' hs' => ?_⟩
  obtain rfl : s' = s := AfterImport.unique hs' AI
  have hz : s₀.asleep := Shared.asleep_of_life (fence_lifeW h6) AI.life
  have hh : s₀.heap = boot_heap w.params := congrArg Prod.fst hs₀
  have hg : s₀.gens = #[] := congrArg (fun x => x.2.1) hs₀
  obtain ⟨n, σ, t, hr, hth, L, hgσ, hlife⟩ := top_left (prog := l.prog) (w := w) hmod hann hdoc htop hz hh hg
  have TR := L.topRan (prog := l.prog) rfl hh hgσ hlife ⟨n, t, hr, hth⟩ hkeys
  have hzσ : σ.asleep := Shared.asleep_of_life hlife hz
  refine ⟨s₀, h6, hg, σ, TR, ?_, (fun x hx => by cases hx), (fun x hx => by cases hx), head_call hzσ hgσ L hT hm hb hw run⟩
  intro n hn
  obtain rfl : n = l.name := by
    have : n ∈ [l.name] := hn
    simpa using this
  obtain ⟨hos, hf, poss, mg, c, Pl, ps, I⟩ := L
  have ent := I.tab l.name
  rw [hT] at ent
  obtain ⟨⟨ad, c', pm, u1, u2, oc, vs, tt, u3, u4, u5⟩, hpa, hnd, hsc⟩ := ent
  refine ⟨ad, _, _, a, b, sc, (Claim2Try.globalOf_of_ns I.main.g _).trans u1, Gx_in _ _ u2, rfl, hdef, rfl, rfl, rfl, rfl, rfl, rfl, rfl, rfl, ?_⟩
  obtain ⟨hform, _⟩ := plainArgs_form hpa
  refine ⟨.inl ⟨by rw [hform], rfl⟩, [], by rw [hform]; rfl, .inl ⟨rfl, rfl⟩⟩
end Mine
set_option maxRecDepth 100000
set_option linter.unusedVariables false
namespace Mine
open PySem
section
variable {C : Ctx} {n : Nat} {sc : Scope} {σ σ₁ σ₂ : Loc} {f x y m : Str} {a b c u v : PV} {e l r o i it t : Expr} {p p1 p2 p3 p4 p5 p6 p7 q : Pos} {k : Nat} {E : Ev}
theorem x_const {c : Const} (h : constP c = some v) : (ev C (n + 1)).ex sc (.Constant c k p) σ = .ok (v, σ) := by
  show (Rs.of (constP c)).bind _ = _
  rw [h]; rfl
theorem x_loc (h : σ.get x = some (.val v)) : (ev C (n + 1)).ex sc (.Name x p) σ = .ok (v, σ) := by
  show nameE C sc x σ = _
  unfold nameE; rw [h]
theorem x_own {xs : List PV} (h : σ.get x = some (.own xs)) : (ev C (n + 1)).ex sc (.Name x p) σ = .ok (.list xs, σ.set x (.val (.list xs))) := by
  show nameE C sc x σ = _
  unfold nameE; rw [h]
theorem x_glob (h : σ.get x = none) (hg : isG sc x = true) (hv : C.glob x = some v) : (ev C (n + 1)).ex sc (.Name x p) σ = .ok (v, σ) := by
  show nameE C sc x σ = _
  unfold nameE; rw [h]
  simp only [hg, if_true, hv]; rfl
theorem x_bin {op : Operator} (h1 : (ev C n).ex sc l σ = .ok (a, σ₁)) (h2 : (ev C n).ex sc r σ₁ = .ok (b, σ₂)) (h3 : binop op a b = some v) : (ev C (n + 1)).ex sc (.BinOp l op r p) σ = .ok (v, σ₂) := by
  show ((ev C n).ex sc l σ).bind _ = _
  rw [h1]
  show ((ev C n).ex sc r σ₁).bind _ = _
  rw [h2]
  show (Rs.of (binop op a b)).bind _ = _
  rw [h3]; rfl
theorem c_one {op : CmpOp} {z : Bool} (hi : inName [op] [r] = none) (hs : isSetE r = false) (h1 : E.ex sc r σ = .ok (b, σ₁)) (h2 : cmpop op a b = some z) : cmpE E sc a [op] [r] σ = .ok (z, σ₁) := by
  show (match inName [op] [r] with
    | some y => (match σ.get y with
      | some sl => (Rs.of (inOwn a sl)).bind fun b => Rs.ok (b, σ)
      | none => .stuck)
    | none => if isSetE r then Rs.stuck else (E.ex sc r σ).bind fun p => (Rs.of (cmpop op a p.1)).bind fun c => Rs.ok (c, p.2)) = _
  rw [hi, hs]
  show (E.ex sc r σ).bind _ = _
  rw [h1]
  show (Rs.of (cmpop op a b)).bind _ = _
  rw [h2]; rfl
theorem c_in {sl : Slot} {z : Bool} (h1 : σ.get y = some sl) (h2 : inOwn a sl = some z) : cmpE E sc a [.In] [.Name y p] σ = .ok (z, σ) := by
  show (match σ.get y with
      | some sl => (Rs.of (inOwn a sl)).bind fun b => Rs.ok (b, σ)
      | none => .stuck) = _
  rw [h1]
  show (Rs.of (inOwn a sl)).bind _ = _
  rw [h2]; rfl
theorem c_two {op op' : CmpOp} {r' : Expr} {z z' : Bool} (h1 : E.ex sc r σ = .ok (b, σ)) (h2 : cmpop op a b = some z) (h3 : cmpE E sc b [op'] [r'] σ = .ok (z', σ)) : cmpE E sc a [op, op'] [r, r'] σ = .ok (z && z', σ) := by
  show (E.ex sc r σ).bind _ = _
  rw [h1]
  show (Rs.of (cmpop op a b)).bind _ = _
  rw [h2]
  cases z with
  | true => exact h3
  | false => rfl
theorem e_nil : exs E sc [] σ = .ok ([], σ) := rfl
theorem e_cons {es : List Expr} {vs : List PV} (hs : isStar e = false) (h1 : E.ex sc e σ = .ok (v, σ₁)) (h2 : exs E sc es σ₁ = .ok (vs, σ₂)) : exs E sc (e :: es) σ = .ok (v :: vs, σ₂) := by
  show (if isStar e then Rs.stuck else (E.ex sc e σ).bind fun p => (exs E sc es p.2).bind fun q => Rs.ok (p.1 :: q.1, q.2)) = _
  rw [hs]
  show (E.ex sc e σ).bind _ = _
  rw [h1]
  show (exs E sc es σ₁).bind _ = _
  rw [h2]; rfl
theorem x_tuple {es : List Expr} {vs : List PV} (h1 : exs (ev C n) sc es σ = .ok (vs, σ₁)) (h2 : vs.length ≤ lim) : (ev C (n + 1)).ex sc (.Tuple es k p) σ = .ok (.tuple vs, σ₁) := by
  show (exs (ev C n) sc es σ).bind _ = _
  simp only [h1, Rs.ok_bind, h2, if_true]
theorem x_list {es : List Expr} {vs : List PV} (h1 : exs (ev C n) sc es σ = .ok (vs, σ₁)) (h2 : vs.length ≤ lim) : (ev C (n + 1)).ex sc (.List es p) σ = .ok (.list vs, σ₁) := by
  show (exs (ev C n) sc es σ).bind _ = _
  simp only [h1, Rs.ok_bind, h2, if_true]
theorem x_sub (h1 : (ev C n).ex sc o σ = .ok (a, σ₁)) (h2 : subE (ev C n) sc a i σ₁ = .ok (v, σ₂)) : (ev C (n + 1)).ex sc (.Subscript o i p) σ = .ok (v, σ₂) := by
  show ((ev C n).ex sc o σ).bind _ = _
  simp only [h1, Rs.ok_bind, h2]
theorem s_item (hs : isSlice i = false) (h1 : E.ex sc i σ = .ok (b, σ₁)) (h2 : itemP a b = some v) : subE E sc a i σ = .ok (v, σ₁) := by
  have e : subE E sc a i σ = (E.ex sc i σ).bind fun p => (Rs.of (itemP a p.1)).bind fun r => .ok (r, p.2) := by
    cases i <;> first | rfl | exact Bool.noConfusion (show false = true from hs.symm)
  rw [e, h1]
  show (Rs.of (itemP a b)).bind _ = _
  rw [h2]; rfl
theorem s_slice {le ue : Option Expr} {lo hi : Option PV} (h1 : exo E sc le σ = .ok (lo, σ₁)) (h2 : exo E sc ue σ₁ = .ok (hi, σ₂)) (h3 : sliceP a lo hi = some v) : subE E sc a (.Slice le ue none p) σ = .ok (v, σ₂) := by
  have e0 : subE E sc a (.Slice le ue none p) σ = (exo E sc le σ).bind fun p => (exo E sc ue p.2).bind fun q => (Rs.of (sliceP a p.1 q.1)).bind fun r => .ok (r, q.2) := by
    cases le <;> cases ue <;> rfl
  rw [e0, h1]
  show (exo E sc ue σ₁).bind _ = _
  rw [h2]
  show (Rs.of (sliceP a lo hi)).bind _ = _
  rw [h3]; rfl
theorem s_rev (h : revP a = some v) : subE E sc a (.Slice none none (some (.UnaryOp .USub (.Constant (.int 1) k p1) p2)) p) σ = .ok (v, σ) := by
  show (Rs.of (revP a)).bind _ = _
  rw [h]; rfl
theorem o_none : exo E sc none σ = .ok (none, σ) := rfl
theorem o_some (h : E.ex sc e σ = .ok (v, σ₁)) : exo E sc (some e) σ = .ok (some v, σ₁) := by
  show (E.ex sc e σ).bind _ = _
  rw [h]; rfl
theorem callE_fn {fn : Fn} {args : List Expr} (hf : C.fns f = some fn) (hσ : σ.get f = none) (hg : isG sc f = true) (hl : args.length < 30) : callE C E sc f args σ = (exs E sc args σ).bind fun p => (E.cl f p.1).bind fun v => .ok (v, p.2) := by
  unfold callE
  rw [hσ, hg, hf, decide_eq_true hl]; rfl
theorem x_call {fn : Fn} {args : List Expr} {vs : List PV} (hf : C.fns f = some fn) (hσ : σ.get f = none) (hg : isG sc f = true) (hl : args.length < 30) (h1 : exs (ev C n) sc args σ = .ok (vs, σ₁)) (h2 : (ev C n).cl f vs = .ok v) :
    (ev C (n + 1)).ex sc (.Call (.Name f p1) args [] p) σ = .ok (v, σ₁) := by
  show callE C (ev C n) sc f args σ = _
  rw [callE_fn hf hσ hg hl, h1]
  show ((ev C n).cl f vs).bind _ = _
  rw [h2]; rfl
theorem x_callX {fn : Fn} {args : List Expr} {vs : List PV} (hf : C.fns f = some fn) (hσ : σ.get f = none) (hg : isG sc f = true) (hl : args.length < 30) (h1 : exs (ev C n) sc args σ = .ok (vs, σ₁)) (h2 : (ev C n).cl f vs = .exc) :
    (ev C (n + 1)).ex sc (.Call (.Name f p1) args [] p) σ = .exc := by
  show callE C (ev C n) sc f args σ = _
  rw [callE_fn hf hσ hg hl, h1]
  show ((ev C n).cl f vs).bind _ = _
  rw [h2]; rfl
theorem x_bi (hf : C.fns f = none) (hσ : σ.get f = none) (hg : isG sc f = true) (hs : isStar e = false) (hb : isBi f = true) (h1 : (ev C n).ex sc e σ = .ok (a, σ₁)) (h2 : builtin1 f a = some v) :
    (ev C (n + 1)).ex sc (.Call (.Name f p1) [e] [] p) σ = .ok (v, σ₁) := by
  show callE C (ev C n) sc f [e] σ = _
  unfold callE
  rw [hσ, hg, hf]
  show (if isStar e || !isBi f then Rs.stuck else ((ev C n).ex sc e σ).bind fun p => (Rs.of (builtin1 f p.1)).bind fun r => Rs.ok (r, p.2)) = _
  rw [hs, hb]
  show ((ev C n).ex sc e σ).bind _ = _
  rw [h1]
  show (Rs.of (builtin1 f a)).bind _ = _
  rw [h2]; rfl
theorem x_join {xs : List PV} {bs : List UInt8} (hl : (p2.endLine == p.line) = true) (hs : isStar e = false) (h1 : (ev C n).ex sc e σ = .ok (.list xs, σ₁)) (h2 : joinBytes xs = some bs) (h3 : bs.length ≤ lim) :
    (ev C (n + 1)).ex sc (.Call (.Attribute (.Constant (.bytes []) k p1) ("join" : Str) p2) [e] [] p) σ = .ok (.bytes bs, σ₁) := by
  show (if (p2.endLine == p.line) = true then methE (ev C n) sc (.Constant (.bytes []) k p1) ("join" : Str) e σ else .stuck) = _
  rw [if_pos hl]
  unfold methE
  have hj : (("join" : Str) == Str.ofString "join") = true := by decide
  rw [hs, hj]
  show ((ev C n).ex sc e σ).bind _ = _
  rw [h1]
  show (Rs.of (joinBytes xs)).bind _ = _
  rw [h2]
  exact if_pos h3
theorem x_comp {csc : Scope} {xs ws : List PV} (hc : compScope csc = true) (hs : isSetE it = false) (h1 : (ev C n).ex sc it σ = .ok (.list xs, σ₁)) (h2 : compL t ((ev C n).ex csc e) xs (freshLoc csc) = .ok ws) (h3 : ws.length ≤ lim) :
    (ev C (n + 1)).ex sc (.ListComp e [⟨t, it, [], 0⟩] csc p) σ = .ok (.list ws, σ₁) := by
  show compE (ev C n) sc e [⟨t, it, [], 0⟩] csc σ = _
  show (if (0 : Nat) == 0 && compScope csc && !isSetE it then _ else Rs.stuck) = _
  rw [hc, hs]
  show ((ev C n).ex sc it σ).bind _ = _
  rw [h1]
  show (compL t ((ev C n).ex csc e) xs (freshLoc csc)).bind _ = _
  rw [h2]
  exact if_pos h3
theorem t_cmp {ops : List CmpOp} {rs : List Expr} {z : Bool} (h1 : (ev C n).ex sc l σ = .ok (a, σ₁)) (h2 : cmpE (ev C n) sc a ops rs σ₁ = .ok (z, σ₂)) : (ev C (n + 1)).tr sc (.Compare l ops rs p) σ = .ok (z, σ₂) := by
  show ((ev C n).ex sc l σ).bind _ = _
  simp only [h1, Rs.ok_bind, h2]
theorem t_not {z : Bool} (h : (ev C n).tr sc e σ = .ok (z, σ₁)) : (ev C (n + 1)).tr sc (.UnaryOp .Not e p) σ = .ok (!z, σ₁) := by
  show ((ev C n).tr sc e σ).bind _ = _
  rw [h]; rfl
theorem t_bool {op : BoolOp} {es : List Expr} {z : Bool} (h : boolE (ev C n) sc op es σ = .ok (z, σ₁)) : (ev C (n + 1)).tr sc (.BoolOp op es p) σ = .ok (z, σ₁) := h
theorem b_or {es : List Expr} {z z' : Bool} (h1 : E.tr sc e σ = .ok (z, σ)) (h2 : z = false → boolE E sc .Or es σ = .ok (z', σ)) : boolE E sc .Or (e :: es) σ = .ok (z || z', σ) := by
  show (E.tr sc e σ).bind _ = _
  rw [h1]
  cases z with
  | true => rfl
  | false => exact h2 rfl
theorem b_and {es : List Expr} {z z' : Bool} (h1 : E.tr sc e σ = .ok (z, σ)) (h2 : z = true → boolE E sc .And es σ = .ok (z', σ)) : boolE E sc .And (e :: es) σ = .ok (z && z', σ) := by
  show (E.tr sc e σ).bind _ = _
  rw [h1]
  cases z with
  | false => rfl
  | true => exact h2 rfl
noncomputable def plainTest : Expr → Bool
  | .UnaryOp .. | .BoolOp .. | .Compare .. | .IfExp .. => false
  | _ => true
theorem t_val {z : Bool} (hp : plainTest e = true) (h1 : (ev C n).ex sc e σ = .ok (a, σ₁)) (h2 : truthP a = some z) : (ev C (n + 1)).tr sc e σ = .ok (z, σ₁) := by
  have e0 : (ev C (n + 1)).tr sc e σ = ((ev C n).ex sc e σ).bind fun p => (Rs.of (truthP p.1)).bind fun b => .ok (b, p.2) := by
    cases e <;> first | rfl | exact Bool.noConfusion (show false = true from hp)
  rw [e0, h1]
  show (Rs.of (truthP a)).bind _ = _
  rw [h2]; rfl
variable {st : Stmt} {rest : List Stmt} {res : Rs (Outc × Loc)}
theorem ss_nil : (ev C (n + 1)).ss sc [] σ = .ok (.next, σ) := rfl
theorem ss_next (h1 : stepSt C (ev C n) sc st σ = .ok (.next, σ₁)) (h2 : (ev C (n + 1)).ss sc rest σ₁ = res) : (ev C (n + 1)).ss sc (st :: rest) σ = res := by
  show (stepSt C (ev C n) sc st σ).bind _ = _
  rw [h1]; exact h2
theorem ss_nextN (h1 : stepSt C (ev C n) sc st σ = .ok (.next, σ₁)) (he : σ₁ = σ₂) (h2 : (ev C (n + 1)).ss sc rest σ₂ = res) : (ev C (n + 1)).ss sc (st :: rest) σ = res := ss_next h1 (he ▸ h2)
theorem ss_end (h : σ = σ₁) : (ev C (n + 1)).ss sc [] σ = .ok (.next, σ₁) := h ▸ rfl
theorem ss_retd (h1 : stepSt C (ev C n) sc st σ = .ok (.ret v, σ₁)) : (ev C (n + 1)).ss sc (st :: rest) σ = .ok (.ret v, σ₁) := by
  show (stepSt C (ev C n) sc st σ).bind _ = _
  rw [h1]; rfl
theorem ss_exc (h1 : stepSt C (ev C n) sc st σ = .exc) : (ev C (n + 1)).ss sc (st :: rest) σ = .exc := by
  show (stepSt C (ev C n) sc st σ).bind _ = _
  rw [h1]; rfl
noncomputable def plainVal : Expr → Bool
  | .List [] _ => false
  | .Dict [] [] _ => false
  | .SetComp .. | .DictComp .. => false
  | _ => true
theorem plainVal_of {e : Expr} (h : plainVal e = true) : emptyList e = false ∧ emptyDict e = false ∧ isComp2 e = false := by
  cases e <;> first | exact ⟨rfl, rfl, rfl⟩ | exact Bool.noConfusion (show false = true from h) | skip
  · rename_i ks vs p
    cases ks <;> cases vs <;> first | exact ⟨rfl, rfl, rfl⟩ | exact Bool.noConfusion (show false = true from h)
  · rename_i es p
    cases es <;> first | exact ⟨rfl, rfl, rfl⟩ | exact Bool.noConfusion (show false = true from h)
theorem set_run {sl : Slot} (h1 : E.ex sc e σ = .ok (v, σ₁)) (hx : σ₁.get x = some sl) : setE E sc x e σ = .ok (.next, σ₁.set x (.val v)) := by
  unfold setE
  rw [h1]
  show (match σ₁.get x with
    | some _ => Rs.ok (Outc.next, σ₁.set x (.val v))
    | none => .stuck) = _
  rw [hx]
theorem st_set {sl : Slot} (hp : plainVal e = true) (h1 : E.ex sc e σ = .ok (v, σ₁)) (hx : σ₁.get x = some sl) : stepSt C E sc (.Assign [.Name x p1] e p) σ = .ok (.next, σ₁.set x (.val v)) := by
  obtain ⟨h3, h4, h5⟩ := plainVal_of hp
  show (if emptyList e then _ else if emptyDict e then _ else if isComp2 e then Rs.stuck else setE E sc x e σ) = _
  rw [h3, h4, h5]
  exact set_run h1 hx
theorem st_own {sl : Slot} (hx : σ.get x = some sl) : stepSt C E sc (.Assign [.Name x p1] (.List [] p2) p) σ = .ok (.next, σ.set x (.own [])) := by
  show (match σ.get x with
      | some _ => Rs.ok (Outc.next, σ.set x (.own []))
      | none => .stuck) = _
  rw [hx]
theorem st_dict {sl : Slot} (hx : σ.get x = some sl) : stepSt C E sc (.Assign [.Name x p1] (.Dict [] [] p2) p) σ = .ok (.next, σ.set x (.dict [])) := by
  show (match σ.get x with
      | some _ => Rs.ok (Outc.next, σ.set x (.dict []))
      | none => .stuck) = _
  rw [hx]
theorem st_unpack {ts : List Expr} (h1 : isTup e = false) (h2 : isComp e = false) (h3 : E.ex sc e σ = .ok (v, σ₁)) (h4 : assignP (.Tuple ts k p1) v σ₁ = some σ₂) : stepSt C E sc (.Assign [.Tuple ts k p1] e p) σ = .ok (.next, σ₂) := by
  show (if isTup e || isComp e then Rs.stuck else (E.ex sc e σ).bind fun q => (Rs.of (assignP (.Tuple ts k p1) q.1 q.2)).bind fun σ₂ => Rs.ok (Outc.next, σ₂)) = _
  rw [h1, h2]
  show (E.ex sc e σ).bind _ = _
  rw [h3]
  show (Rs.of (assignP (.Tuple ts k p1) v σ₁)).bind _ = _
  rw [h4]; rfl
theorem st_item {ks : List (List UInt8)} {bs : List UInt8} (h1 : σ.get x = some (.dict ks)) (h2 : σ.get y = some (.val (.bytes bs))) (h3 : ks.length < lim) :
    stepSt C E sc (.Assign [.Subscript (.Name x p1) (.Name y p2) p3] (.Constant (.bool true) k p4) p) σ = .ok (.next, σ.set x (.dict (if ks.contains bs then ks else ks ++ [bs]))) := by
  show (match σ.get x, σ.get y with
      | some (.dict ks), some (.val (.bytes b)) => if ks.length < lim then Rs.ok (Outc.next, σ.set x (.dict (if ks.contains b then ks else ks ++ [b]))) else .stuck
      | _, _ => .stuck) = _
  rw [h1, h2]
  exact if_pos h3
theorem st_app {xs ys : List PV} (hl : (p2.endLine == p3.line) = true) (hs : isStar e = false) (h0 : σ.get x = some (.own ys)) (h1 : E.ex sc e σ = .ok (v, σ₁)) (h2 : σ₁.get x = some (.own xs)) (h3 : xs.length < lim) :
    stepSt C E sc (.Expr (.Call (.Attribute (.Name x p1) ("append" : Str) p2) [e] [] p3) p) σ = .ok (.next, σ₁.set x (.own (xs ++ [v]))) := by
  have ha : isAppend (.Call (.Attribute (.Name x p1) ("append" : Str) p2) [e] [] p3) = some (x, e) := by
    have hj : (("append" : Str) == Str.ofString "append") = true := by decide
    show (if ("append" : Str) == Str.ofString "append" && p2.endLine == p3.line && !isStar e then some (x, e) else none) = _
    rw [hj, hl, hs]; rfl
  show (match isAppend (.Call (.Attribute (.Name x p1) ("append" : Str) p2) [e] [] p3) with
    | some (x, a) => (match σ.get x with
      | some (.own _) => (E.ex sc a σ).bind fun p => (match p.2.get x with
        | some (.own xs) => if xs.length < lim then Rs.ok (Outc.next, p.2.set x (.own (xs ++ [p.1]))) else .stuck
        | _ => .stuck)
      | _ => .stuck)
    | none => .stuck) = _
  rw [ha]
  show (match σ.get x with
      | some (.own _) => (E.ex sc e σ).bind fun p => (match p.2.get x with
        | some (.own xs) => if xs.length < lim then Rs.ok (Outc.next, p.2.set x (.own (xs ++ [p.1]))) else .stuck
        | _ => .stuck)
      | _ => .stuck) = _
  rw [h0]
  show (E.ex sc e σ).bind _ = _
  rw [h1]
  show (match σ₁.get x with
        | some (.own xs) => if xs.length < lim then Rs.ok (Outc.next, σ₁.set x (.own (xs ++ [v]))) else .stuck
        | _ => .stuck) = _
  rw [h2]
  exact if_pos h3
theorem st_if {bd orr : List Stmt} {z : Bool} (h1 : E.tr sc t σ = .ok (z, σ₁)) (h2 : z = true → E.ss sc bd σ₁ = res) (h3 : z = false → E.ss sc orr σ₁ = res) : stepSt C E sc (.If t bd orr p) σ = res := by
  show (E.tr sc t σ).bind _ = _
  rw [h1]
  cases z with
  | true => exact h2 rfl
  | false => exact h3 rfl
theorem st_ifT {bd orr : List Stmt} {z : Bool} (h1 : E.tr sc t σ = .ok (z, σ₁)) (hz : z = true) (h2 : E.ss sc bd σ₁ = res) : stepSt C E sc (.If t bd orr p) σ = res := st_if h1 (fun _ => h2) fun q => by rw [hz] at q; cases q
theorem st_ifF {bd orr : List Stmt} {z : Bool} (h1 : E.tr sc t σ = .ok (z, σ₁)) (hz : z = false) (h2 : E.ss sc orr σ₁ = res) : stepSt C E sc (.If t bd orr p) σ = res := st_if h1 (fun q => by rw [hz] at q; cases q) fun _ => h2
theorem st_ret (h1 : E.ex sc e σ = .ok (v, σ₁)) : stepSt C E sc (.Return (some e) p) σ = .ok (.ret v, σ₁) := by
  show (E.ex sc e σ).bind _ = _
  rw [h1]; rfl
theorem st_raise {tx : Str} (hx : C.exc = true) (hg : isG sc ("ValueError" : Str) = true) (hσ : σ.get ("ValueError" : Str) = none) : stepSt C E sc (.Raise (some (.Call (.Name ("ValueError" : Str) p1) [.Constant (.str tx) k p2] [] p3)) none p) σ = .exc := by
  have hv : isVE sc σ (.Call (.Name ("ValueError" : Str) p1) [.Constant (.str tx) k p2] [] p3) = true := by
    have hj : (("ValueError" : Str) == Str.ofString "ValueError") = true := by decide
    show (("ValueError" : Str) == Str.ofString "ValueError" && isG sc ("ValueError" : Str) && (σ.get ("ValueError" : Str)).isNone) = true
    rw [hj, hg, hσ]; rfl
  show (if isVE sc σ (.Call (.Name ("ValueError" : Str) p1) [.Constant (.str tx) k p2] [] p3) && C.exc then Rs.exc else .stuck) = _
  rw [hv, hx]; rfl
theorem st_for {bd : List Stmt} {xs : List PV} (hs : isSetE it = false) (h1 : iterE E sc it σ = .ok (xs, σ₁)) (h2 : forL t (E.ss sc bd) xs σ₁ = res) : stepSt C E sc (.For t it bd [] p) σ = res := by
  show (if isSetE it then Rs.stuck else (iterE E sc it σ).bind fun p => forL t (E.ss sc bd) p.1 p.2) = _
  rw [hs, h1]; exact h2
theorem st_forX {bd : List Stmt} (hs : isSetE it = false) (h1 : iterE E sc it σ = .exc) : stepSt C E sc (.For t it bd [] p) σ = .exc := by
  show (if isSetE it then Rs.stuck else (iterE E sc it σ).bind fun p => forL t (E.ss sc bd) p.1 p.2) = _
  rw [hs, h1]; rfl
theorem i_plain {xs : List PV} (hr : isRange it = none) (h1 : E.ex sc it σ = .ok (a, σ₁)) (h2 : itemsP a = some xs) : iterE E sc it σ = .ok (xs, σ₁) := by
  unfold iterE
  rw [hr]
  show (E.ex sc it σ).bind _ = _
  rw [h1]
  show (Rs.of (itemsP a)).bind _ = _
  rw [h2]; rfl
theorem i_plainX (hr : isRange it = none) (h1 : E.ex sc it σ = .exc) : iterE E sc it σ = .exc := by
  unfold iterE
  rw [hr]
  show (E.ex sc it σ).bind _ = _
  rw [h1]; rfl
theorem i_range {z : Int} {nn : Nat} (hr : isRange it = some e) (hg : isG sc ("range" : Str) = true) (hσ : σ.get ("range" : Str) = none) (h1 : E.ex sc e σ = .ok (.int z, σ₁)) (h0 : z = nn) (h2 : nn ≤ lim) : iterE E sc it σ = .ok ((List.range nn).map fun (j : Nat) => PV.int (j : Int), σ₁) := by
  subst h0
  unfold iterE
  have h3 : rangeP (.int (nn : Int)) = some ((List.range nn).map fun (j : Nat) => PV.int (j : Int)) := by
    unfold rangeP
    have : (0 : Int) ≤ nn ∧ (nn : Int) ≤ lim := ⟨by (exact (i0 _)), by (exact (iLe (k := _) (linL [_, _] [.l 1 (.v 0) (.v 1)] 1 (.v 0) (.v 1) rfl h2)))⟩
    exact if_pos this
  rw [hr]
  show (if isG sc (Str.ofString "range") && (σ.get (Str.ofString "range")).isNone then (E.ex sc e σ).bind fun p => (Rs.of (rangeP p.1)).bind fun l => Rs.ok (l, p.2) else .stuck) = _
  rw [hg, hσ]
  show (E.ex sc e σ).bind _ = _
  rw [h1]
  show (Rs.of (rangeP (.int (nn : Int)))).bind _ = _
  rw [h3]; rfl
theorem st_try {c : Const} {sl : Slot} (hf : (isG sc ("ValueError" : Str) && (σ.get ("ValueError" : Str)).isNone && !isComp e && !emptyList e && !emptyDict e) = true) (h1 : E.ex sc e σ = .ok (v, σ₁)) (hx : σ₁.get x = some sl) :
    stepSt C E sc (.Try [.Assign [.Name x p1] e p2] [.ExceptHandler (some (.Name ("ValueError" : Str) p3)) none [.Assign [.Name y p4] (.Constant c k p5) p6] p7] [] [] p) σ = .ok (.next, σ₁.set x (.val v)) := by
  have hj : (("ValueError" : Str) == Str.ofString "ValueError") = true := by decide
  show (if ("ValueError" : Str) == Str.ofString "ValueError" && isG sc ("ValueError" : Str) && (σ.get ("ValueError" : Str)).isNone && !isComp e && !emptyList e && !emptyDict e then
      (match setE E sc x e σ with
      | .exc => (match constP c, σ.get y with
        | some w, some _ => Rs.ok (Outc.next, σ.set y (.val w))
        | _, _ => .stuck)
      | o => o)
    else .stuck) = _
  rw [hj, Bool.true_and, hf, set_run h1 hx]; rfl
theorem st_tryX {c : Const} {sl : Slot} (hf : (isG sc ("ValueError" : Str) && (σ.get ("ValueError" : Str)).isNone && !isComp e && !emptyList e && !emptyDict e) = true) (h1 : E.ex sc e σ = .exc) (hc : constP c = some v) (hy : σ.get y = some sl) :
    stepSt C E sc (.Try [.Assign [.Name x p1] e p2] [.ExceptHandler (some (.Name ("ValueError" : Str) p3)) none [.Assign [.Name y p4] (.Constant c k p5) p6] p7] [] [] p) σ = .ok (.next, σ.set y (.val v)) := by
  have hj : (("ValueError" : Str) == Str.ofString "ValueError") = true := by decide
  have hs : setE E sc x e σ = .exc := by unfold setE; rw [h1]; rfl
  show (if ("ValueError" : Str) == Str.ofString "ValueError" && isG sc ("ValueError" : Str) && (σ.get ("ValueError" : Str)).isNone && !isComp e && !emptyList e && !emptyDict e then
      (match setE E sc x e σ with
      | .exc => (match constP c, σ.get y with
        | some w, some _ => Rs.ok (Outc.next, σ.set y (.val w))
        | _, _ => .stuck)
      | o => o)
    else .stuck) = _
  rw [hj, Bool.true_and, hf, hs]
  show (match constP c, σ.get y with
        | some w, some _ => Rs.ok (Outc.next, σ.set y (.val w))
        | _, _ => .stuck) = _
  rw [hc, hy]
theorem cl_ok {fn : Fn} {vs : List PV} (hf : C.fns f = some fn) (hb : bindAll fn.params vs (freshLoc fn.scope) = some σ) (h : (ev C n).ss fn.scope fn.body σ = .ok (.ret v, σ₁)) : (ev C (n + 1)).cl f vs = .ok v := by
  show stepCl C (ev C n) f vs = _
  unfold stepCl
  rw [hf]
  show (Rs.of (bindAll fn.params vs (freshLoc fn.scope))).bind _ = _
  rw [hb]
  show ((ev C n).ss fn.scope fn.body σ).bind _ = _
  rw [h]; rfl
theorem cl_okE {fn : Fn} {vs : List PV} (hf : C.fns f = some fn) (hb : bindAll fn.params vs (freshLoc fn.scope) = some σ) (h : (ev C n).ss fn.scope fn.body σ = .ok (.ret u, σ₁)) (hv : u = v) : (ev C (n + 1)).cl f vs = .ok v := hv ▸ cl_ok hf hb h
theorem cl_exc {fn : Fn} {vs : List PV} (hf : C.fns f = some fn) (hb : bindAll fn.params vs (freshLoc fn.scope) = some σ) (h : (ev C n).ss fn.scope fn.body σ = .exc) : (ev C (n + 1)).cl f vs = .exc := by
  show stepCl C (ev C n) f vs = _
  unfold stepCl
  rw [hf]
  show (Rs.of (bindAll fn.params vs (freshLoc fn.scope))).bind _ = _
  rw [hb]
  show ((ev C n).ss fn.scope fn.body σ).bind _ = _
  rw [h]; rfl
theorem f_cons {bd : Loc → Rs (Outc × Loc)} {vs : List PV} {res : Rs (Outc × Loc)} (h1 : assignP t v σ = some σ₁) (h2 : bd σ₁ = .ok (.next, σ₂)) (h3 : forL t bd vs σ₂ = res) : forL t bd (v :: vs) σ = res := by
  show (Rs.of (assignP t v σ)).bind _ = _
  rw [h1]
  show (bd σ₁).bind _ = _
  rw [h2]; exact h3
theorem f_ret {bd : Loc → Rs (Outc × Loc)} {vs : List PV} (h1 : assignP t v σ = some σ₁) (h2 : bd σ₁ = .ok (.ret u, σ₂)) : forL t bd (v :: vs) σ = .ok (.ret u, σ₂) := by
  show (Rs.of (assignP t v σ)).bind _ = _
  rw [h1]
  show (bd σ₁).bind _ = _
  rw [h2]; rfl
theorem f_exc {bd : Loc → Rs (Outc × Loc)} {vs : List PV} (h1 : assignP t v σ = some σ₁) (h2 : bd σ₁ = .exc) : forL t bd (v :: vs) σ = .exc := by
  show (Rs.of (assignP t v σ)).bind _ = _
  rw [h1]
  show (bd σ₁).bind _ = _
  rw [h2]; rfl
theorem for_fold {α β : Type} {bd : Loc → Rs (Outc × Loc)} (S : α → Loc) (g : α → β → α) (inj : β → PV) : ∀ (xs : List β) (a : α), (∀ a b, b ∈ xs → ∃ σ₁, assignP t (inj b) (S a) = some σ₁ ∧ bd σ₁ = .ok (.next, S (g a b))) → forL t bd (xs.map inj) (S a) = .ok (.next, S (xs.foldl g a))
  | [], a, _ => rfl
  | b :: xs, a, h => by
    obtain ⟨σ₁, h1, h2⟩ := h a b (.head _)
    exact f_cons h1 h2 (for_fold S g inj xs (g a b) fun a' b' hb => h a' b' (.tail _ hb))
theorem for_foldI {α β : Type} {bd : Loc → Rs (Outc × Loc)} (S : α → Loc) (g : α → β → α) (inj : β → PV) (I : List β → α → Prop) (hI : ∀ b bs a, I (b :: bs) a → I bs (g a b)) : ∀ (xs : List β) (a : α), I xs a → (∀ b bs a, I (b :: bs) a → ∃ σ₁, assignP t (inj b) (S a) = some σ₁ ∧ bd σ₁ = .ok (.next, S (g a b))) → forL t bd (xs.map inj) (S a) = .ok (.next, S (xs.foldl g a))
  | [], a, _, _ => rfl
  | b :: xs, a, i, h => by
    obtain ⟨σ₁, h1, h2⟩ := h b xs a i
    exact f_cons h1 h2 (for_foldI S g inj I hI xs (g a b) (hI b xs a i) h)
theorem for_rec {α β : Type} {bd : Loc → Rs (Outc × Loc)} (S : α → Loc) (inj : β → PV) (I : List β → α → Prop) (F : List β → α → Rs (Outc × Loc)) (h0 : ∀ a, I [] a → F [] a = .ok (.next, S a))
    (h : ∀ b bs a, I (b :: bs) a → ∃ σ₁, assignP t (inj b) (S a) = some σ₁ ∧
      ((∃ a', bd σ₁ = .ok (.next, S a') ∧ I bs a' ∧ F (b :: bs) a = F bs a') ∨ (bd σ₁ = .exc ∧ F (b :: bs) a = .exc) ∨ ∃ v σ', bd σ₁ = .ok (.ret v, σ') ∧ F (b :: bs) a = .ok (.ret v, σ'))) :
    ∀ (xs : List β) (a : α), I xs a → forL t bd (xs.map inj) (S a) = F xs a
  | [], a, i => (h0 a i).symm
  | b :: xs, a, i => by
    obtain ⟨σ₁, h1, h2⟩ := h b xs a i
    rcases h2 with ⟨a', h2, h3, h4⟩ | ⟨h2, h4⟩ | ⟨v, σ', h2, h4⟩
    · rw [h4]; exact f_cons h1 h2 (for_rec S inj I F h0 h xs a' h3)
    · rw [h4]; exact f_exc h1 h2
    · rw [h4]; exact f_ret h1 h2
end
noncomputable def idxL : Loc → Str → Option Nat
  | [], _ => none
  | (y, _) :: r, x => if x == y then some 0 else (idxL r x).map (· + 1)
theorem set_idx {x : Str} {v : Slot} : ∀ {σ : Loc} {i : Nat}, idxL σ x = some i → Loc.set σ x v = List.set σ i (x, v)
  | [], _, h => by cases h
  | (y, s) :: r, i, h => by
    unfold idxL at h
    unfold Loc.set
    cases hb : x == y with
    | true =>
      rw [hb] at h
      have h : some 0 = some i := h
      cases h
      have : x = y := eq_of_beq hb
      subst this
      rfl
    | false =>
      rw [hb] at h
      have h : (idxL r x).map (· + 1) = some i := h
      obtain ⟨j, h1, h2⟩ := Option.map_eq_some_iff.mp h
      subst h2
      show (y, s) :: Loc.set r x v = _
      rw [set_idx h1]; rfl
theorem set_idxC {x y : Str} {s v : Slot} {r : Loc} {i : Nat} (h : idxL ((y, s) :: r) x = some i) : Loc.set ((y, s) :: r) x v = List.set ((y, s) :: r) i (x, v) := set_idx h
theorem set_idx2 {x x' y : Str} {s v v' : Slot} {r : Loc} {i j : Nat} (h : idxL ((y, s) :: r) x = some i) (h' : idxL (List.set ((y, s) :: r) i (x, v)) x' = some j) : Loc.set (Loc.set ((y, s) :: r) x v) x' v' = List.set (List.set ((y, s) :: r) i (x, v)) j (x', v') := by
  rw [set_idx h]; exact set_idx h'
end Mine
set_option maxRecDepth 100000
set_option linter.unusedVariables false
namespace Mine
open PySem
abbrev Bs := List UInt8
abbrev Ent := Bs × Bs
noncomputable def le2 (n : Nat) : Bs := [n.toUInt8, (n / 256).toUInt8]
noncomputable def le4 (n : Nat) : Bs := [n.toUInt8, (n / 256).toUInt8, (n / 65536).toUInt8, (n / 16777216).toUInt8]
noncomputable def cstep (c : Nat) : Nat := if c % 2 = 1 then 3988292384 ^^^ (c / 2) else c / 2
noncomputable def cstep8 (c : Nat) : Nat := cstep (cstep (cstep (cstep (cstep (cstep (cstep (cstep c)))))))
noncomputable def tabN : List Nat := (List.range 256).map cstep8
noncomputable def crcUp (c : Nat) (b : UInt8) : Nat := cstep8 ((c ^^^ b.toNat) % 256) ^^^ (c / 256)
noncomputable def crcRun (c : Nat) (d : Bs) : Nat := d.foldl crcUp c
noncomputable def crc (d : Bs) : Nat := crcRun 4294967295 d ^^^ 4294967295
noncomputable def midB (name data : Bs) : Bs := le2 0 ++ le2 0 ++ le2 0 ++ le2 33 ++ le4 (crc data) ++ le4 data.length ++ le4 data.length ++ le2 name.length ++ le2 0
noncomputable def locB (e : Ent) : Bs := [80, 75, 3, 4] ++ le2 20 ++ midB e.1 e.2 ++ e.1 ++ e.2
noncomputable def cenH (off : Nat) (e : Ent) : Bs := [80, 75, 1, 2] ++ le2 20 ++ le2 20 ++ midB e.1 e.2 ++ le2 0 ++ le2 0 ++ le2 0 ++ le4 0 ++ le4 off
noncomputable def front (es : List Ent) : Bs := (es.map locB).flatten
noncomputable def room (e : Ent) : Nat := 30 + e.1.length + e.2.length
noncomputable def middle : Nat → List Ent → Bs
  | _, [] => []
  | off, e :: es => cenH off e ++ e.1 ++ middle (off + room e) es
noncomputable def endB (count size off : Nat) : Bs := [80, 75, 5, 6] ++ le2 0 ++ le2 0 ++ le2 count ++ le2 count ++ le4 size ++ le4 off ++ le2 0
noncomputable def arc (es : List Ent) : Bs := front es ++ middle 0 es ++ endB es.length (middle 0 es).length (front es).length
noncomputable def goodFrom (seen : List Bs) : List Ent → Bool
  | [] => true
  | e :: es => !e.1.isEmpty && !seen.contains e.1 && goodFrom (seen ++ [e.1]) es
noncomputable def good (es : List Ent) : Bool := goodFrom [] es
theorem le2_length (n : Nat) : (le2 n).length = 2 := rfl
theorem le4_length (n : Nat) : (le4 n).length = 4 := rfl
theorem midB_length (a b : Bs) : (midB a b).length = 24 := rfl
theorem cenH_length (off : Nat) (e : Ent) : (cenH off e).length = 46 := rfl
theorem endB_length (a b c : Nat) : (endB a b c).length = 22 := rfl
theorem locB_length (e : Ent) : (locB e).length = room e := by
  simp only [locB, room, List.length_append, midB_length, le2_length, List.length_cons, List.length_nil]
theorem and_nat (a b : Nat) : Builtin.bitAnd (a : Int) (b : Int) = ((a &&& b : Nat) : Int) := by
  simp [Builtin.bitAnd]
theorem or_nat (a b : Nat) : Builtin.bitOr (a : Int) (b : Int) = ((a ||| b : Nat) : Int) := by
  rw [PyProof.Rows.bitOr_and, and_nat]
  have := PyProof.Rows.nat_or_add_and a b
  omega
theorem xor_and (a b : Nat) : (a ^^^ b) + (a &&& b) = a ||| b := by
  have h := PyProof.Rows.nat_or_add_and (a ^^^ b) (a &&& b)
  have h1 : (a ^^^ b) &&& (a &&& b) = 0 := by
    apply Nat.eq_of_testBit_eq
    intro i
    simp only [Nat.testBit_and, Nat.testBit_xor, Nat.zero_testBit]
    cases a.testBit i <;> cases b.testBit i <;> rfl
  have h2 : (a ^^^ b) ||| (a &&& b) = a ||| b := by
    apply Nat.eq_of_testBit_eq
    intro i
    simp only [Nat.testBit_or, Nat.testBit_and, Nat.testBit_xor]
    cases a.testBit i <;> cases b.testBit i <;> rfl
  rw [h1, h2] at h
  (exact (linE [_, _, _] [.r 1 (.a (.v 0) (.n 0)) (.a (.v 1) (.v 2))] 1 (.a (.v 1) (.v 2)) (.v 0) rfl rfl h))
theorem xor_nat (a b : Nat) : Builtin.bitXor (a : Int) (b : Int) = ((a ^^^ b : Nat) : Int) := by
  unfold Builtin.bitXor
  rw [or_nat, and_nat]
  have := xor_and a b
  omega
theorem and_255 (a : Nat) : a &&& 255 = a % 256 := by
  have := Nat.and_two_pow_sub_one_eq_mod a 8
  simpa using this
theorem fdiv_nat (a b : Nat) : (a : Int).fdiv (b : Int) = ((a / b : Nat) : Int) := by
  rw [Int.fdiv_eq_ediv_of_nonneg _ (by (exact (i0 _)))]; rfl
theorem fmod_nat (a b : Nat) : (a : Int).fmod (b : Int) = ((a % b : Nat) : Int) := by
  rw [Int.fmod_eq_emod_of_nonneg _ (by (exact (i0 _)))]; rfl
end Mine
set_option maxRecDepth 100000
set_option linter.unusedVariables false
namespace Mine
open PySem
theorem lim_val : lim = 16777216 := rfl
section
variable {C : Ctx} {n : Nat} {sc : Scope} {σ : Loc} {p : Pos} {k : Nat}
theorem x_int {i : Int} {m : Nat} (h : i = (m : Int)) : (ev C (n + 1)).ex sc (.Constant (.int i) k p) σ = .ok (.int (m : Int), σ) := by
  subst h; exact x_const rfl
end
section
variable (a b : Nat) (x y : Int)
theorem bin_add : binop .Add (.int (a : Int)) (.int (b : Int)) = some (.int ((a + b : Nat) : Int)) := rfl
theorem bin_sub (h : b ≤ a) : binop .Sub (.int (a : Int)) (.int (b : Int)) = some (.int ((a - b : Nat) : Int)) := by show some (PV.int ((a : Int) - (b : Int))) = _; congr 2; (exact (iSub (linL [_, _] [.l 1 (.v 0) (.v 1)] 1 (.v 0) (.v 1) rfl h)))
theorem bin_and : binop .BitAnd (.int (a : Int)) (.int (b : Int)) = some (.int ((a &&& b : Nat) : Int)) := by show some (PV.int (Builtin.bitAnd a b)) = _; rw [and_nat]
theorem bin_or : binop .BitOr (.int (a : Int)) (.int (b : Int)) = some (.int ((a ||| b : Nat) : Int)) := by show some (PV.int (Builtin.bitOr a b)) = _; rw [or_nat]
theorem bin_xor : binop .BitXor (.int (a : Int)) (.int (b : Int)) = some (.int ((a ^^^ b : Nat) : Int)) := by show some (PV.int (Builtin.bitXor a b)) = _; rw [xor_nat]
theorem bin_shr : binop .RShift (.int (a : Int)) (.int (b : Int)) = some (.int ((a / 2 ^ b : Nat) : Int)) := by
  have h : (0 : Int) ≤ b := by (exact (i0 _))
  show some (PV.int ((a : Int).fdiv (2 ^ (b : Int).toNat))) = _
  rw [Int.toNat_natCast]
  congr 2
  have e : ((2 : Int) ^ b) = ((2 ^ b : Nat) : Int) := by push_cast; rfl
  rw [e, fdiv_nat]
theorem bin_shl (h : b ≤ 1000000) (h' : a < 2 ^ 64) : binop .LShift (.int (a : Int)) (.int (b : Int)) = some (.int ((a * 2 ^ b : Nat) : Int)) := by
  have h : (0 : Int) ≤ b ∧ (b : Int) ≤ 1000000 ∧ (a : Int).natAbs < 2 ^ 64 := ⟨by (exact (i0 _)), by (exact (iLe (k := 1000000) (linL [_] [.l 1 (.v 0) (.n 1000000)] 1 (.v 0) (.n 1000000) rfl h))), by simpa using h'⟩
  refine Eq.trans (if_pos h) ?_
  rw [Int.toNat_natCast]
  congr 2
theorem bin_mul (h : a < 2 ^ 63 ∨ b < 2 ^ 63) : binop .Mult (.int (a : Int)) (.int (b : Int)) = some (.int ((a * b : Nat) : Int)) := by
  have h : (a : Int).natAbs < 2 ^ 63 ∨ (b : Int).natAbs < 2 ^ 63 := by simpa using h
  refine Eq.trans (if_pos h) ?_
  congr 2
theorem bin_mod (h : b ≠ 0) (h' : b < 1073741824) : binop .Mod (.int (a : Int)) (.int (b : Int)) = some (.int ((a % b : Nat) : Int)) := by
  have h : (b : Int) ≠ 0 ∧ (b : Int).natAbs < 1073741824 := ⟨by (exact (iNe (fun z0 => ((Nat.lt_or_gt_of_ne h).elim (fun y4 => (linF [_] [.s 1 (.v 0) (.n 0)] rfl y4)) (fun y4 => (linF [_] [.q 1 (.v 0) (.n 0), .s 1 (.n 0) (.v 0)] rfl z0 y4)))))), by simpa using h'⟩
  refine Eq.trans (if_pos h) ?_
  rw [fmod_nat]
theorem bin_div (h : b ≠ 0) (h' : b < 1073741824) : binop .FloorDiv (.int (a : Int)) (.int (b : Int)) = some (.int ((a / b : Nat) : Int)) := by
  have h : (b : Int) ≠ 0 ∧ (b : Int).natAbs < 1073741824 := ⟨by (exact (iNe (fun z0 => ((Nat.lt_or_gt_of_ne h).elim (fun y4 => (linF [_] [.s 1 (.v 0) (.n 0)] rfl y4)) (fun y4 => (linF [_] [.q 1 (.v 0) (.n 0), .s 1 (.n 0) (.v 0)] rfl z0 y4)))))), by simpa using h'⟩
  refine Eq.trans (if_pos h) ?_
  rw [fdiv_nat]
theorem bin_modZ (h : b ≠ 0) (h' : b < 1073741824) : binop .Mod (.int x) (.int (b : Int)) = some (.int (((x % (b : Int)).toNat : Nat) : Int)) := by
  have h1 : (b : Int) ≠ 0 ∧ (b : Int).natAbs < 1073741824 := ⟨by (exact (iNe (fun z0 => ((Nat.lt_or_gt_of_ne h).elim (fun y4 => (linF [_] [.s 1 (.v 0) (.n 0)] rfl y4)) (fun y4 => (linF [_] [.q 1 (.v 0) (.n 0), .s 1 (.n 0) (.v 0)] rfl z0 y4)))))), by simpa using h'⟩
  refine Eq.trans (if_pos h1) ?_
  rw [Int.fmod_eq_emod_of_nonneg _ (by (exact (i0 _))), Int.toNat_of_nonneg (Int.emod_nonneg _ (by omega))]
theorem bin_divZ (h : b ≠ 0) (h' : b < 1073741824) : binop .FloorDiv (.int x) (.int (b : Int)) = some (.int (x / (b : Int))) := by
  have h1 : (b : Int) ≠ 0 ∧ (b : Int).natAbs < 1073741824 := ⟨by (exact (iNe (fun z0 => ((Nat.lt_or_gt_of_ne h).elim (fun y4 => (linF [_] [.s 1 (.v 0) (.n 0)] rfl y4)) (fun y4 => (linF [_] [.q 1 (.v 0) (.n 0), .s 1 (.n 0) (.v 0)] rfl z0 y4)))))), by simpa using h'⟩
  refine Eq.trans (if_pos h1) ?_
  rw [Int.fdiv_eq_ediv_of_nonneg _ (by (exact (i0 _)))]
end
theorem bin_cat {a b : Bs} (h : a.length + b.length ≤ 16777216) : binop .Add (.bytes a) (.bytes b) = some (.bytes (a ++ b)) := by
  exact if_pos h
theorem bin_catL {a b : List PV} (h : a.length + b.length ≤ 16777216) : binop .Add (.list a) (.list b) = some (.list (a ++ b)) := by
  exact if_pos h
theorem bi_len {b : Bs} (h : b.length ≤ 16777216) : builtin1 ("len" : Str) (.bytes b) = some (.int (b.length : Int)) := by
  have e : builtin1 ("len" : Str) (.bytes b) = lenP (.bytes b) := rfl
  rw [e]; simp only [lenP, lim_val, h, if_true]
theorem bi_lenL {b : List PV} (h : b.length ≤ 16777216) : builtin1 ("len" : Str) (.list b) = some (.int (b.length : Int)) := by
  have e : builtin1 ("len" : Str) (.list b) = lenP (.list b) := rfl
  rw [e]; simp only [lenP, lim_val, h, if_true]
theorem bi_bytesB {b : Bs} : builtin1 ("bytes" : Str) (.bytes b) = some (.bytes b) := rfl
theorem bi_bytes {xs : List PV} {bs : Bs} (h : allBytes xs = some bs) (hl : xs.length ≤ 16777216) : builtin1 ("bytes" : Str) (.list xs) = some (.bytes bs) := by
  have e : builtin1 ("bytes" : Str) (.list xs) = bytesP (.list xs) := rfl
  rw [e]; simp only [bytesP, lim_val, hl, if_true, h, Option.map_some]
theorem ab_nil : allBytes [] = some [] := rfl
theorem ab_cons {m : Nat} {xs : List PV} {bs : Bs} (h : m < 256) (hr : allBytes xs = some bs) : allBytes (.int (m : Int) :: xs) = some (m.toUInt8 :: bs) := by
  have : (0 : Int) ≤ m ∧ (m : Int) < 256 := ⟨by (exact (i0 _)), by (exact (iLt (k := 256) (linS [_] [.s 1 (.v 0) (.n 256)] 1 (.v 0) (.n 256) rfl h)))⟩
  simp only [allBytes, this, and_self, if_true, hr, Option.map_some, Int.toNat_natCast]
theorem item_b {b : Bs} {i : Nat} {z : UInt8} (h : b[i]? = some z) (hl : b.length ≤ 16777216) : itemP (.bytes b) (.int (i : Int)) = some (.int (z.toNat : Int)) := by
  have hi : i < b.length := (List.getElem?_eq_some_iff.mp h).1
  have : (0 : Int) ≤ i ∧ (i : Int) < b.length ∧ b.length ≤ lim := ⟨by (exact (i0 _)), by (exact (iLt (k := _) (linS [_, _] [.s 1 (.v 0) (.v 1)] 1 (.v 0) (.v 1) rfl hi))), hl⟩
  refine Eq.trans (if_pos this) ?_
  rw [Int.toNat_natCast, h]; rfl
theorem item_l {b : List PV} {i : Nat} {z : PV} (h : b[i]? = some z) (hl : b.length ≤ 16777216) : itemP (.list b) (.int (i : Int)) = some z := by
  have hi : i < b.length := (List.getElem?_eq_some_iff.mp h).1
  have : (0 : Int) ≤ i ∧ (i : Int) < b.length ∧ b.length ≤ lim := ⟨by (exact (i0 _)), by (exact (iLt (k := _) (linS [_, _] [.s 1 (.v 0) (.v 1)] 1 (.v 0) (.v 1) rfl hi))), hl⟩
  refine Eq.trans (if_pos this) ?_
  rw [Int.toNat_natCast, h]
theorem item_t {b : List PV} {i : Nat} {z : PV} (h : b[i]? = some z) (hl : b.length ≤ 16777216) : itemP (.tuple b) (.int (i : Int)) = some z := by
  have hi : i < b.length := (List.getElem?_eq_some_iff.mp h).1
  have : (0 : Int) ≤ i ∧ (i : Int) < b.length ∧ b.length ≤ lim := ⟨by (exact (i0 _)), by (exact (iLt (k := _) (linS [_, _] [.s 1 (.v 0) (.v 1)] 1 (.v 0) (.v 1) rfl hi))), hl⟩
  refine Eq.trans (if_pos this) ?_
  rw [Int.toNat_natCast, h]
theorem slice_b {b : Bs} {i j : Nat} (hl : b.length ≤ 16777216) : sliceP (.bytes b) (some (.int (i : Int))) (some (.int (j : Int))) = some (.bytes ((b.take j).drop i)) := by
  have h1 : (0 : Int) ≤ i := by (exact (i0 _))
  have h2 : (0 : Int) ≤ j := by (exact (i0 _))
  simp only [sliceP, endP, h1, h2, if_true, Int.toNat_natCast, lim_val, hl, cut]
theorem slice_to {b : Bs} {j : Nat} (hl : b.length ≤ 16777216) : sliceP (.bytes b) none (some (.int (j : Int))) = some (.bytes (b.take j)) := by
  have h2 : (0 : Int) ≤ j := by (exact (i0 _))
  simp only [sliceP, endP, h2, if_true, Int.toNat_natCast, lim_val, hl, cut, List.drop_zero]
theorem slice_from {b : Bs} {i : Nat} (hl : b.length ≤ 16777216) : sliceP (.bytes b) (some (.int (i : Int))) none = some (.bytes (b.drop i)) := by
  have h1 : (0 : Int) ≤ i := by (exact (i0 _))
  simp only [sliceP, endP, h1, if_true, Int.toNat_natCast, lim_val, hl, cut, List.take_length]
theorem sliceL_to {b : List PV} {j : Nat} (hl : b.length ≤ 16777216) : sliceP (.list b) none (some (.int (j : Int))) = some (.list (b.take j)) := by
  have h2 : (0 : Int) ≤ j := by (exact (i0 _))
  simp only [sliceP, endP, h2, if_true, Int.toNat_natCast, lim_val, hl, cut, List.drop_zero]
theorem sliceL_from {b : List PV} {i : Nat} (hl : b.length ≤ 16777216) : sliceP (.list b) (some (.int (i : Int))) none = some (.list (b.drop i)) := by
  have h1 : (0 : Int) ≤ i := by (exact (i0 _))
  simp only [sliceP, endP, h1, if_true, Int.toNat_natCast, lim_val, hl, cut, List.take_length]
theorem cmp_eqN (a b : Nat) : cmpop .Eq (.int (a : Int)) (.int (b : Int)) = some (decide (a = b)) := by
  have : (((a : Int) == (b : Int)) : Bool) = decide (a = b) := by
    rw [show (((a : Int) == (b : Int)) : Bool) = decide ((a : Int) = (b : Int)) from rfl]; congr 1; exact propext Int.ofNat_inj
  show some (((a : Int) == (b : Int)) : Bool) = _
  rw [this]
theorem cmp_neN (a b : Nat) : cmpop .NotEq (.int (a : Int)) (.int (b : Int)) = some (decide (a ≠ b)) := by
  have : (((a : Int) == (b : Int)) : Bool) = decide (a = b) := by
    rw [show (((a : Int) == (b : Int)) : Bool) = decide ((a : Int) = (b : Int)) from rfl]; congr 1; exact propext Int.ofNat_inj
  show some (!(((a : Int) == (b : Int)) : Bool)) = _
  rw [this]
  congr 1
  by_cases h : a = b <;> simp [h]
theorem cmp_ltN (a b : Nat) : cmpop .Lt (.int (a : Int)) (.int (b : Int)) = some (decide (a < b)) := by
  show some (decide ((a : Int) < (b : Int))) = _; congr 1; simp
theorem cmp_gtN (a b : Nat) : cmpop .Gt (.int (a : Int)) (.int (b : Int)) = some (decide (b < a)) := by
  show some (decide ((a : Int) > (b : Int))) = _; congr 1; simp
theorem cmp_leN (a b : Nat) : cmpop .LtE (.int (a : Int)) (.int (b : Int)) = some (decide (a ≤ b)) := by
  show some (decide ((a : Int) ≤ (b : Int))) = _; congr 1; simp
theorem cmp_neB (a b : Bs) : cmpop .NotEq (.bytes a) (.bytes b) = some (decide (a ≠ b)) := by
  have : (a == b) = decide (a = b) := by by_cases h : a = b <;> simp [h]
  show some (!(a == b)) = _
  rw [this]
  congr 1
  by_cases h : a = b <;> simp [h]
theorem cmp_eqB (a b : Bs) : cmpop .Eq (.bytes a) (.bytes b) = some (decide (a = b)) := by
  have : (a == b) = decide (a = b) := by by_cases h : a = b <;> simp [h]
  show some (a == b) = _
  rw [this]
end Mine
set_option maxRecDepth 100000
set_option linter.unusedVariables false
namespace Mine
open PySem
abbrev P : Program := PySem.Challenge.pw_sx_r045_1
noncomputable def fnOf (i : Nat) : Fn := match P.main.body[i]? with
  | some (.FunctionDef _ a b _ _ _ sc _ _ _) => ⟨a.args.map (·.arg), sc, b⟩
  | _ => ⟨[], P.main.scope, []⟩
noncomputable def natsP (l : List Nat) : List PV := l.map fun (n : Nat) => PV.int (n : Int)
structure Cm (C : Ctx) : Prop where
  exc : C.exc = true
  crc32 : C.fns ("crc32" : Str) = some (fnOf 3)
  u16 : C.fns ("_u16" : Str) = some (fnOf 5)
  u32 : C.fns ("_u32" : Str) = some (fnOf 6)
  get16 : C.fns ("_get16" : Str) = some (fnOf 7)
  get32 : C.fns ("_get32" : Str) = some (fnOf 8)
  mid : C.fns ("_mid" : Str) = some (fnOf 10)
  write : C.fns ("write_archive" : Str) = some (fnOf 11)
  dir : C.fns ("_directory" : Str) = some (fnOf 12)
  names : C.fns ("names" : Str) = some (fnOf 13)
  read : C.fns ("read_archive" : Str) = some (fnOf 14)
  len : C.fns ("len" : Str) = none
  bytes : C.fns ("bytes" : Str) = none
  type : C.fns ("type" : Str) = none
  table : C.glob ("_TABLE" : Str) = some (.list (natsP tabN))
theorem b_nilO {E : Ev} {sc : Scope} {σ : Loc} : boolE E sc .Or [] σ = .ok (false, σ) := rfl
theorem b_nilA {E : Ev} {sc : Scope} {σ : Loc} : boolE E sc .And [] σ = .ok (true, σ) := rfl
local macro_rules | `(tactic| get_elem_tactic) => `(tactic| ((try simp only [List.length_append, List.length_cons, List.length_nil, le2_length, le4_length, midB_length, cenH_length, endB_length, List.length_take, List.length_drop]); first | exact Nat.le_of_ble_eq_true rfl | omega))
local macro_rules | `(tactic| decreasing_tactic) => `(tactic| first | with_reducible exact bin_add _ _ | with_reducible exact bin_and _ _ | with_reducible exact bin_or _ _ | with_reducible exact bin_xor _ _ | with_reducible exact bin_shr _ _ | ((with_reducible refine bin_shl _ _ ?_ ?_) <;> first | decide | omega) | ((with_reducible refine bin_sub _ _ ?_); first | omega | (simp only [List.length_nil]; omega)) | ((with_reducible refine bin_mul _ _ ?_); first | omega | (simp only [List.length_nil]; omega)) | ((with_reducible refine bin_mod _ _ ?_ ?_) <;> decide) | ((with_reducible refine bin_div _ _ ?_ ?_) <;> decide) | ((with_reducible refine bin_modZ _ _ ?_ ?_) <;> decide) | ((with_reducible refine bin_divZ _ _ ?_ ?_) <;> decide) | ((with_reducible refine bin_cat ?_); get_elem_tactic) | ((with_reducible refine bin_catL ?_); get_elem_tactic) | ((with_reducible refine bi_len ?_); get_elem_tactic) | ((with_reducible refine bi_lenL ?_); get_elem_tactic) | with_reducible exact bi_bytesB | ((with_reducible refine slice_b ?_); get_elem_tactic) | ((with_reducible refine slice_to ?_); get_elem_tactic) | ((with_reducible refine slice_from ?_); get_elem_tactic) | ((with_reducible refine sliceL_to ?_); get_elem_tactic) | ((with_reducible refine sliceL_from ?_); get_elem_tactic) | with_reducible exact cmp_eqN _ _ | with_reducible exact cmp_neN _ _ | with_reducible exact cmp_ltN _ _ | with_reducible exact cmp_gtN _ _ | with_reducible exact cmp_leN _ _ | with_reducible exact cmp_neB _ _ | with_reducible exact cmp_eqB _ _ | assumption | exact rfl)
local macro_rules | `(tactic| trivial) => `(tactic| ((with_reducible refine' e_cons ?k1 ?k2 ?k3); (case k1 => exact rfl); (case k2 => trivial); (case k3 => trivial)))
local macro_rules | `(tactic| trivial) => `(tactic| with_reducible exact e_nil)
local macro_rules | `(tactic| trivial) => `(tactic| ((with_reducible refine' o_some ?k1); (case k1 => trivial)))
local macro_rules | `(tactic| trivial) => `(tactic| with_reducible exact o_none)
local macro_rules | `(tactic| trivial) => `(tactic| ((with_reducible refine' s_item ?k1 ?k2 ?k3); (case k1 => exact rfl); (case k2 => trivial); (case k3 => decreasing_tactic)))
local macro_rules | `(tactic| trivial) => `(tactic| ((with_reducible refine' s_slice ?k1 ?k2 ?k3); (case k1 => trivial); (case k2 => trivial); (case k3 => decreasing_tactic)))
local macro_rules | `(tactic| trivial) => `(tactic| ((with_reducible refine' c_one ?k1 ?k2 ?k3 ?k4); (case k1 => exact rfl); (case k2 => exact rfl); (case k3 => trivial); (case k4 => decreasing_tactic)))
local macro_rules | `(tactic| trivial) => `(tactic| ((with_reducible refine' c_in ?k1 ?k2); (case k1 => exact rfl); (case k2 => decreasing_tactic)))
local macro_rules | `(tactic| trivial) => `(tactic| ((with_reducible refine' t_cmp ?k1 ?k2); (case k1 => trivial); (case k2 => trivial)))
local macro_rules | `(tactic| trivial) => `(tactic| with_reducible exact b_nilO)
local macro_rules | `(tactic| trivial) => `(tactic| with_reducible exact b_nilA)
local macro_rules | `(tactic| trivial) => `(tactic| ((with_reducible refine' b_or ?k1 ?k2); (case k1 => trivial); (case k2 => intro hz; (try simp only [decide_eq_false_iff_not] at hz); trivial)))
local macro_rules | `(tactic| trivial) => `(tactic| ((with_reducible refine' b_and ?k1 ?k2); (case k1 => trivial); (case k2 => intro hz; (try simp only [decide_eq_true_eq] at hz); trivial)))
local macro_rules | `(tactic| trivial) => `(tactic| ((with_reducible refine' t_bool ?k1); (case k1 => trivial)))
local macro_rules | `(tactic| trivial) => `(tactic| ((with_reducible refine' t_not ?k1); (case k1 => trivial)))
local macro_rules | `(tactic| trivial) => `(tactic| ((with_reducible refine' x_list ?k1 ?k2); (case k1 => trivial); (case k2 => exact Nat.le_of_ble_eq_true rfl)))
local macro_rules | `(tactic| trivial) => `(tactic| ((with_reducible refine' x_tuple ?k1 ?k2); (case k1 => trivial); (case k2 => exact Nat.le_of_ble_eq_true rfl)))
local macro_rules | `(tactic| trivial) => `(tactic| ((with_reducible refine' x_sub ?k1 ?k2); (case k1 => trivial); (case k2 => trivial)))
local macro_rules | `(tactic| trivial) => `(tactic| ((with_reducible refine' x_bin ?k1 ?k2 ?k3); (case k1 => trivial); (case k2 => trivial); (case k3 => decreasing_tactic)))
local macro_rules | `(tactic| trivial) => `(tactic| ((with_reducible refine' x_bi ?k1 ?k2 ?k3 ?k4 ?k5 ?k6 ?k7); (case k1 => first | assumption | with_reducible exact Cm.len (by assumption) | with_reducible exact Cm.bytes (by assumption) | with_reducible exact Cm.type (by assumption)); (case k2 => exact rfl); (case k3 => exact rfl); (case k4 => exact rfl); (case k5 => exact rfl); (case k6 => trivial); (case k7 => decreasing_tactic)))
local macro_rules | `(tactic| trivial) => `(tactic| ((with_reducible refine' x_call ?k1 ?k2 ?k3 ?k4 ?k5 ?k6); (case k1 => first | assumption | with_reducible exact Cm.u16 (by assumption) | with_reducible exact Cm.u32 (by assumption) | with_reducible exact Cm.crc32 (by assumption) | with_reducible exact Cm.mid (by assumption) | with_reducible exact Cm.get16 (by assumption) | with_reducible exact Cm.get32 (by assumption)); (case k2 => exact rfl); (case k3 => exact rfl); (case k4 => exact Nat.le_of_ble_eq_true rfl); (case k5 => trivial); (case k6 => decreasing_tactic)))
local macro_rules | `(tactic| trivial) => `(tactic| ((with_reducible refine' x_glob ?k1 ?k2 ?k3); (case k1 => exact rfl); (case k2 => exact rfl); (case k3 => assumption)))
local macro_rules | `(tactic| trivial) => `(tactic| ((with_reducible refine' x_own ?k1); (case k1 => exact rfl)))
local macro_rules | `(tactic| trivial) => `(tactic| ((with_reducible refine' x_join ?k1 ?k2 ?k3 ?k4 ?k5); (case k1 => exact rfl); (case k2 => exact rfl); (case k3 => trivial); (case k4 => decreasing_tactic); (case k5 => get_elem_tactic)))
local macro_rules | `(tactic| trivial) => `(tactic| ((with_reducible refine' x_loc ?k1); (case k1 => exact rfl)))
local macro_rules | `(tactic| trivial) => `(tactic| ((with_reducible refine' x_const ?k1); (case k1 => exact rfl)))
local macro_rules | `(tactic| trivial) => `(tactic| ((with_reducible refine' x_int ?k1); (case k1 => exact rfl)))
local macro_rules | `(tactic| trivial) => `(tactic| ((with_reducible refine' st_set ?k1 ?k2 ?k3); (case k1 => exact rfl); (case k2 => trivial); (case k3 => exact rfl)))
local macro_rules | `(tactic| trivial) => `(tactic| ((with_reducible refine' st_own ?k1); (case k1 => exact rfl)))
local macro_rules | `(tactic| trivial) => `(tactic| ((with_reducible refine' st_dict ?k1); (case k1 => exact rfl)))
local macro_rules | `(tactic| trivial) => `(tactic| ((with_reducible refine' st_app ?k1 ?k2 ?k3 ?k4 ?k5 ?k6); (case k1 => exact rfl); (case k2 => exact rfl); (case k3 => exact rfl); (case k4 => trivial); (case k5 => exact rfl); (case k6 => get_elem_tactic)))
local macro_rules | `(tactic| trivial) => `(tactic| ((with_reducible refine' st_item ?k1 ?k2 ?k3); (case k1 => exact rfl); (case k2 => exact rfl); (case k3 => get_elem_tactic)))
local macro_rules | `(tactic| trivial) => `(tactic| ((with_reducible refine' st_ret ?k1); (case k1 => trivial)))
section
variable {C : Ctx}
theorem bytes_le2 (x : Nat) : builtin1 ("bytes" : Str) (.list [.int ((x &&& 255 : Nat) : Int), .int ((x / 2 ^ 8 &&& 255 : Nat) : Int)]) = some (.bytes (le2 x)) := by
  refine (bi_bytes (ab_cons ?_ (ab_cons ?_ ab_nil)) (Nat.le_of_ble_eq_true rfl)).trans ?_
  · rw [and_255]; exact Nat.mod_lt _ (by decide)
  · rw [and_255]; exact Nat.mod_lt _ (by decide)
  · simp only [and_255, le2]
    congr 3
    · exact UInt8.toNat_inj.mp (by simp)
    · congr 1
      exact UInt8.toNat_inj.mp (by simp)
theorem u16_run (M : Cm C) (x n : Nat) : (ev C (n + 10)).cl ("_u16" : Str) [.int (x : Int)] = .ok (.bytes (le2 x)) := by
  have hB := M.bytes
  have h := bytes_le2 x
  refine' cl_ok M.u16 (σ := [("n", .val (.int x))]) (by kernel_rfl) (ss_retd (st_ret ?k))
  case k => first | trivial | fail
theorem bytes_le4 (x : Nat) : builtin1 ("bytes" : Str) (.list [.int ((x &&& 255 : Nat) : Int), .int ((x / 2 ^ 8 &&& 255 : Nat) : Int), .int ((x / 2 ^ 16 &&& 255 : Nat) : Int), .int ((x / 2 ^ 24 &&& 255 : Nat) : Int)]) = some (.bytes (le4 x)) := by
  refine (bi_bytes (ab_cons ?_ (ab_cons ?_ (ab_cons ?_ (ab_cons ?_ ab_nil)))) (Nat.le_of_ble_eq_true rfl)).trans ?_
  · rw [and_255]; exact Nat.mod_lt _ (by decide)
  · rw [and_255]; exact Nat.mod_lt _ (by decide)
  · rw [and_255]; exact Nat.mod_lt _ (by decide)
  · rw [and_255]; exact Nat.mod_lt _ (by decide)
  · have e : ∀ y : Nat, (y &&& 255).toUInt8 = y.toUInt8 := fun y => by rw [and_255]; exact UInt8.toNat_inj.mp (by simp)
    simp only [e, le4]
theorem u32_run (M : Cm C) (x n : Nat) : (ev C (n + 10)).cl ("_u32" : Str) [.int (x : Int)] = .ok (.bytes (le4 x)) := by
  have hB := M.bytes
  have h := bytes_le4 x
  refine' cl_ok M.u32 (σ := [("n", .val (.int x))]) (by kernel_rfl) (ss_retd (st_ret ?k))
  case k => first | trivial | fail
noncomputable def g2 (d : Bs) (i : Nat) : Nat := (d.getD i 0).toNat ||| (d.getD (i + 1) 0).toNat * 2 ^ 8
noncomputable def g4 (d : Bs) (i : Nat) : Nat := (d.getD i 0).toNat ||| (d.getD (i + 1) 0).toNat * 2 ^ 8 ||| (d.getD (i + 2) 0).toNat * 2 ^ 16 ||| (d.getD (i + 3) 0).toNat * 2 ^ 24
theorem get_getD {d : Bs} {i : Nat} (h : i < d.length) : d[i]? = some (d.getD i 0) := by
  simp [List.getD, List.getElem?_eq_getElem h]
theorem b_lt (z : UInt8) : z.toNat < 2 ^ 64 := by have := z.toNat_lt; (exact (linS [_] [.s 1 (.v 0) (.n (2 ^ 8))] 1 (.v 0) (.n (2 ^ 64)) rfl this))
theorem get16_run (M : Cm C) (d : Bs) (i n : Nat) (h : i + 1 < d.length) (hl : d.length ≤ 16777216) : (ev C (n + 10)).cl ("_get16" : Str) [.bytes d, .int (i : Int)] = .ok (.int (g2 d i : Nat)) := by
  have h0 := item_b (get_getD (show i < d.length by (exact (linS [_, _] [.s 1 (.a (.v 0) (.n 1)) (.v 1)] 1 (.v 0) (.v 1) rfl h)))) hl
  have h1 := item_b (get_getD (show i + 1 < d.length by (exact (linS [_, _] [.s 1 (.a (.v 0) (.n 1)) (.v 1)] 1 (.a (.v 0) (.n 1)) (.v 1) rfl h)))) hl
  have l1 := b_lt (d.getD (i + 1) 0)
  refine' cl_okE M.get16 (σ := [("data", .val (.bytes d)), ("i", .val (.int i))]) (by kernel_rfl) (ss_retd (st_ret ?k)) ?w
  case k => first | trivial | fail
  case w => rfl
theorem get32_run (M : Cm C) (d : Bs) (i n : Nat) (h : i + 3 < d.length) (hl : d.length ≤ 16777216) : (ev C (n + 10)).cl ("_get32" : Str) [.bytes d, .int (i : Int)] = .ok (.int (g4 d i : Nat)) := by
  have h0 := item_b (get_getD (show i < d.length by (exact (linS [_, _] [.s 1 (.a (.v 0) (.n 3)) (.v 1)] 1 (.v 0) (.v 1) rfl h)))) hl
  have h1 := item_b (get_getD (show i + 1 < d.length by (exact (linS [_, _] [.s 1 (.a (.v 0) (.n 3)) (.v 1)] 1 (.a (.v 0) (.n 1)) (.v 1) rfl h)))) hl
  have h2 := item_b (get_getD (show i + 2 < d.length by (exact (linS [_, _] [.s 1 (.a (.v 0) (.n 3)) (.v 1)] 1 (.a (.v 0) (.n 2)) (.v 1) rfl h)))) hl
  have h3 := item_b (get_getD (show i + 3 < d.length by (exact (linS [_, _] [.s 1 (.a (.v 0) (.n 3)) (.v 1)] 1 (.a (.v 0) (.n 3)) (.v 1) rfl h)))) hl
  have l1 := b_lt (d.getD (i + 1) 0)
  have l2 := b_lt (d.getD (i + 2) 0)
  have l3 := b_lt (d.getD (i + 3) 0)
  refine' cl_okE M.get32 (σ := [("data", .val (.bytes d)), ("i", .val (.int i))]) (by kernel_rfl) (ss_retd (st_ret ?k)) ?w
  case k => first | trivial | fail
  case w => rfl
theorem tab_item (k : Nat) (h : k < 256) : itemP (.list (natsP tabN)) (.int (k : Int)) = some (.int (cstep8 k : Nat)) := by
  refine item_l ?_ (by simp [natsP, tabN])
  simp only [natsP, tabN, List.getElem?_map, List.getElem?_range h, Option.map_some]
theorem crc_fold (d : Bs) : ∀ (c : Nat) (sl : Slot), (d.foldl (fun (a : Nat × Slot) (b : UInt8) => (crcUp a.1 b, Slot.val (.int (b.toNat : Nat)))) (c, sl)).1 = crcRun c d := by
  induction d with
  | nil => intro c sl; rfl
  | cons b d ih => intro c sl; exact ih _ _
theorem crc32_run (M : Cm C) (d : Bs) (n : Nat) : (ev C (n + 20)).cl ("crc32" : Str) [.bytes d] = .ok (.int (crc d : Nat)) := by
  have hT := M.table
  refine' cl_okE M.crc32 (σ := [("data", .val (.bytes d)), ("c", .unb), ("b", .unb)]) (by kernel_rfl) ?b ?w
  case b =>
    (refine' ss_next ?s1 ?r1); (case s1 => first | trivial | fail)
    (refine' ss_next (st_for rfl (i_plain rfl ?k2 ?k3) ?k4) ?r2); (case k2 => first | trivial | fail); (case k3 => exact rfl)
    case k4 =>
      refine for_fold (fun (a : Nat × Slot) => [("data", .val (.bytes d)), ("c", .val (.int (a.1 : Nat))), ("b", a.2)]) (fun a (b : UInt8) => (crcUp a.1 b, .val (.int (b.toNat : Nat)))) (fun (b : UInt8) => PV.int (b.toNat : Nat)) d (4294967295, .unb) fun a b _ => ⟨_, rfl, ?_⟩
      have hi := tab_item ((a.1 ^^^ b.toNat) &&& 255) (by rw [and_255]; exact Nat.mod_lt _ (by decide))
      (refine' ss_next ?t1 ?u1); (case t1 => first | trivial | fail)
      rw [and_255]
      exact ss_nil
    (refine' ss_retd ?s3); (case s3 => first | trivial | fail)
  case w => simp only [crc_fold]; rfl
local macro_rules | `(tactic| decreasing_tactic) => `(tactic| first | with_reducible exact u16_run (by assumption) _ _ | with_reducible exact u32_run (by assumption) _ _ | with_reducible exact crc32_run (by assumption) _ _)
theorem mid_run (M : Cm C) (nm d : Bs) (n : Nat) (h1 : nm.length ≤ 16777216) (h2 : d.length ≤ 16777216) : (ev C (n + 40)).cl ("_mid" : Str) [.bytes nm, .bytes d] = .ok (.bytes (midB nm d)) := by
  refine' cl_okE M.mid (σ := [("name", .val (.bytes nm)), ("data", .val (.bytes d)), ("size", .unb)]) (by kernel_rfl) ?b ?w
  case b =>
    (refine' ss_next ?s1 ?r1); (case s1 => first | trivial | fail)
    (refine' ss_retd ?s3); (case s3 => first | trivial | fail)
  case w => rfl
end
set_option maxHeartbeats 1000000
local macro_rules | `(tactic| decreasing_tactic) => `(tactic| first | with_reducible exact u16_run (by assumption) _ _ | with_reducible exact u32_run (by assumption) _ _ | with_reducible exact crc32_run (by assumption) _ _ | ((with_reducible refine mid_run (by assumption) _ _ _ ?_ ?_) <;> get_elem_tactic))
section
variable {C : Ctx}
noncomputable def entP (e : Ent) : PV := .tuple [.bytes e.1, .bytes e.2]
theorem ent_0 (e : Ent) : itemP (entP e) (.int ((0 : Nat) : Int)) = some (.bytes e.1) := item_t rfl (Nat.le_of_ble_eq_true rfl)
theorem ent_1 (e : Ent) : itemP (entP e) (.int ((1 : Nat) : Int)) = some (.bytes e.2) := item_t rfl (Nat.le_of_ble_eq_true rfl)
abbrev WS := List Bs × Slot × Slot × Slot
noncomputable def wF (S : WS → Loc) : List Ent → WS → Rs (Outc × Loc)
  | [], a => .ok (.next, S a)
  | e :: es, a => if e.1.length = 0 then .exc else if a.1.contains e.1 then .exc else wF S es (a.1 ++ [e.1], .val (entP e), .val (.bytes e.1), .val (.bytes e.1))
theorem wF_good (S : WS → Loc) : ∀ (es : List Ent) (a : WS), goodFrom a.1 es = true → ∃ a', wF S es a = .ok (.next, S a')
  | [], a, _ => ⟨a, rfl⟩
  | e :: es, a, h => by
    simp only [goodFrom, Bool.and_eq_true, Bool.not_eq_true', List.isEmpty_eq_false_iff] at h
    have h1 : ¬ e.1.length = 0 := fun q => h.1.1 (List.eq_nil_of_length_eq_zero q)
    unfold wF
    rw [if_neg h1, h.1.2]
    exact wF_good S es _ h.2
theorem wF_bad (S : WS → Loc) : ∀ (es : List Ent) (a : WS), goodFrom a.1 es = false → wF S es a = .exc
  | [], a, h => by cases h
  | e :: es, a, h => by
    unfold wF
    by_cases h1 : e.1.length = 0
    · rw [if_pos h1]
    · rw [if_neg h1]
      by_cases h2 : a.1.contains e.1 = true
      · rw [if_pos h2]
      · rw [if_neg h2]
        refine wF_bad S es _ ?_
        have h3 : e.1.isEmpty = false := by simpa using fun q : e.1 = [] => h1 (by rw [q]; rfl)
        have h4 : a.1.contains e.1 = false := by simpa using h2
        simp only [goodFrom, h3, h4, Bool.not_false, Bool.true_and] at h
        exact h
noncomputable def forB (b : List Stmt) (i : Nat) : List Stmt := match b[i]? with
  | some (.For _ _ x _ _) => x
  | _ => []
noncomputable def forT (b : List Stmt) (i : Nat) : Expr := match b[i]? with
  | some (.For t _ _ _ _) => t
  | _ => .Constant .none 0 default
noncomputable def wS (es : List Ent) (a : WS) : Loc := [("entries", .val (.list (es.map entP))), ("seen", .dict a.1), ("entry", a.2.1), ("name", a.2.2.1), ("key", a.2.2.2), ("local_parts", .unb), ("central_parts", .unb), ("offset", .unb), ("central_size", .unb), ("count", .unb), ("data", .unb), ("mid", .unb), ("end", .unb)]
theorem wLoop (M : Cm C) (es : List Ent) (hl : ∀ e ∈ es, e.1.length ≤ 16777216) (hn : es.length < 16777216) {n : Nat} : forL (forT (fnOf 11).body 1) ((ev C (n + 58)).ss (fnOf 11).scope (forB (fnOf 11).body 1)) (es.map entP) (wS es ([], .unb, .unb, .unb)) = wF (wS es) es ([], .unb, .unb, .unb) := by
  have hX := M.exc
  refine for_rec (wS es) entP (fun bs a => (∀ e ∈ bs, e.1.length ≤ 16777216) ∧ a.1.length + bs.length ≤ es.length) (wF (wS es)) (fun a _ => rfl) ?_ es ([], .unb, .unb, .unb) ⟨hl, by simp⟩
  rintro e bs ⟨seen, q1, q2, q3⟩ ⟨hb, hs⟩
  have hb0 := hb e (.head _)
  have i0 := ent_0 e
  refine ⟨_, rfl, ?_⟩
  by_cases h1 : e.1.length = 0
  · refine .inr (.inl ⟨?_, by unfold wF; rw [if_pos h1]⟩)
    (refine' ss_nextN ?s2 ?e2 ?r2); (case s2 => first | trivial | fail); (case e2 => (try unfold wS); (try unfold w2S); first | ((with_reducible refine' Eq.trans (set_idxC ?jj2) ?jk2); (case jj2 => exact rfl); (case jk2 => dsimp only [List.set_cons_succ, List.set_cons_zero]; try exact rfl)) | ((with_reducible refine' Eq.trans (set_idx2 ?jl2 ?jm2) ?jn2); (case jl2 => exact rfl); (case jm2 => exact rfl); (case jn2 => dsimp only [List.set_cons_succ, List.set_cons_zero]; try exact rfl)) | (simp (config := { decide := true }) only [Loc.set, if_true, if_false]; exact rfl))
    (refine' ss_exc (st_ifT ?a3 ?b3 ?c3)); (case a3 => first | trivial | fail); (case b3 => simpa using h1); (case c3 => exact ss_exc (st_raise hX rfl rfl))
  · by_cases h2 : seen.contains e.1 = true
    · refine .inr (.inl ⟨?_, by unfold wF; rw [if_neg h1, if_pos h2]⟩)
      (refine' ss_nextN ?s4 ?e4 ?r4); (case s4 => first | trivial | fail); (case e4 => (try unfold wS); (try unfold w2S); first | ((with_reducible refine' Eq.trans (set_idxC ?jj4) ?jk4); (case jj4 => exact rfl); (case jk4 => dsimp only [List.set_cons_succ, List.set_cons_zero]; try exact rfl)) | ((with_reducible refine' Eq.trans (set_idx2 ?jl4 ?jm4) ?jn4); (case jl4 => exact rfl); (case jm4 => exact rfl); (case jn4 => dsimp only [List.set_cons_succ, List.set_cons_zero]; try exact rfl)) | (simp (config := { decide := true }) only [Loc.set, if_true, if_false]; exact rfl))
      (refine' ss_next (st_ifF ?a5 ?b5 ?c5) ?r5); (case a5 => first | trivial | fail); (case b5 => simpa using h1); (case c5 => exact ss_nil)
      (refine' ss_nextN ?s6 ?e6 ?r6); (case s6 => first | trivial | fail); (case e6 => (try unfold wS); (try unfold w2S); first | ((with_reducible refine' Eq.trans (set_idxC ?jj6) ?jk6); (case jj6 => exact rfl); (case jk6 => dsimp only [List.set_cons_succ, List.set_cons_zero]; try exact rfl)) | ((with_reducible refine' Eq.trans (set_idx2 ?jl6 ?jm6) ?jn6); (case jl6 => exact rfl); (case jm6 => exact rfl); (case jn6 => dsimp only [List.set_cons_succ, List.set_cons_zero]; try exact rfl)) | (simp (config := { decide := true }) only [Loc.set, if_true, if_false]; exact rfl))
      (refine' ss_exc (st_ifT ?a7 ?b7 ?c7)); (case a7 => first | trivial | fail); (case b7 => exact h2); (case c7 => exact ss_exc (st_raise hX rfl rfl))
    · have h2' : seen.contains e.1 = false := by simpa using h2
      refine .inl ⟨(seen ++ [e.1], .val (entP e), .val (.bytes e.1), .val (.bytes e.1)), ?_, ⟨fun e' he => hb e' (.tail _ he), ?_⟩, by conv => lhs; unfold wF; rw [if_neg h1, if_neg h2]⟩
      · (refine' ss_nextN ?s8 ?e8 ?r8); (case s8 => first | trivial | fail); (case e8 => (try unfold wS); (try unfold w2S); first | ((with_reducible refine' Eq.trans (set_idxC ?jj8) ?jk8); (case jj8 => exact rfl); (case jk8 => dsimp only [List.set_cons_succ, List.set_cons_zero]; try exact rfl)) | ((with_reducible refine' Eq.trans (set_idx2 ?jl8 ?jm8) ?jn8); (case jl8 => exact rfl); (case jm8 => exact rfl); (case jn8 => dsimp only [List.set_cons_succ, List.set_cons_zero]; try exact rfl)) | (simp (config := { decide := true }) only [Loc.set, if_true, if_false]; exact rfl))
        (refine' ss_next (st_ifF ?a9 ?b9 ?c9) ?r9); (case a9 => first | trivial | fail); (case b9 => simpa using h1); (case c9 => exact ss_nil)
        (refine' ss_nextN ?s10 ?e10 ?r10); (case s10 => first | trivial | fail); (case e10 => (try unfold wS); (try unfold w2S); first | ((with_reducible refine' Eq.trans (set_idxC ?jj10) ?jk10); (case jj10 => exact rfl); (case jk10 => dsimp only [List.set_cons_succ, List.set_cons_zero]; try exact rfl)) | ((with_reducible refine' Eq.trans (set_idx2 ?jl10 ?jm10) ?jn10); (case jl10 => exact rfl); (case jm10 => exact rfl); (case jn10 => dsimp only [List.set_cons_succ, List.set_cons_zero]; try exact rfl)) | (simp (config := { decide := true }) only [Loc.set, if_true, if_false]; exact rfl))
        (refine' ss_next (st_ifF ?a11 ?b11 ?c11) ?r11); (case a11 => first | trivial | fail); (case b11 => exact h2'); (case c11 => exact ss_nil)
        have hs' : seen.length < 16777216 := by simp at hs; (exact (linS [_, _, _] [.s 1 (.v 0) (.n 16777216), .l 1 (.a (.v 1) (.a (.v 2) (.n 1))) (.v 0)] 1 (.v 1) (.n 16777216) rfl hn hs))
        (refine' ss_nextN ?s12 ?e12 ?r12); (case s12 => first | trivial | fail); (case e12 => (try unfold wS); (try unfold w2S); first | ((with_reducible refine' Eq.trans (set_idxC ?jj12) ?jk12); (case jj12 => exact rfl); (case jk12 => dsimp only [List.set_cons_succ, List.set_cons_zero]; try exact rfl)) | ((with_reducible refine' Eq.trans (set_idx2 ?jl12 ?jm12) ?jn12); (case jl12 => exact rfl); (case jm12 => exact rfl); (case jn12 => dsimp only [List.set_cons_succ, List.set_cons_zero]; try exact rfl)) | (simp (config := { decide := true }) only [Loc.set, if_true, if_false]; exact rfl))
        rw [h2']
        exact ss_nil
      · simp at hs ⊢; (exact (linL [_, _, _] [.l 1 (.a (.v 0) (.a (.v 1) (.n 1))) (.v 2)] 1 (.a (.a (.v 0) (.n 1)) (.v 1)) (.v 2) rfl hs))
theorem write_bad (M : Cm C) (es : List Ent) (n : Nat) (hg : good es = false) (hl : ∀ e ∈ es, e.1.length ≤ 16777216) (hn : es.length < 16777216) : (ev C (n + 60)).cl ("write_archive" : Str) [.list (es.map entP)] = .exc := by
  have hX := M.exc
  refine' cl_exc M.write (σ := [("entries", .val (.list (es.map entP))), ("seen", .unb), ("entry", .unb), ("name", .unb), ("key", .unb), ("local_parts", .unb), ("central_parts", .unb), ("offset", .unb), ("central_size", .unb), ("count", .unb), ("data", .unb), ("mid", .unb), ("end", .unb)]) (by kernel_rfl) ?b
  case b =>
    (refine' ss_nextN ?s13 ?e13 ?r13); (case s13 => first | trivial | fail); (case e13 => (try unfold wS); (try unfold w2S); first | ((with_reducible refine' Eq.trans (set_idxC ?jj13) ?jk13); (case jj13 => exact rfl); (case jk13 => dsimp only [List.set_cons_succ, List.set_cons_zero]; try exact rfl)) | ((with_reducible refine' Eq.trans (set_idx2 ?jl13 ?jm13) ?jn13); (case jl13 => exact rfl); (case jm13 => exact rfl); (case jn13 => dsimp only [List.set_cons_succ, List.set_cons_zero]; try exact rfl)) | (simp (config := { decide := true }) only [Loc.set, if_true, if_false]; exact rfl))
    (refine' ss_exc (st_for rfl (i_plain rfl ?k2 ?k3) ?k4)); (case k2 => first | trivial | fail); (case k3 => exact rfl)
    case k4 => exact (wLoop M es hl hn).trans (wF_bad _ _ _ hg)
structure W2 where
  lp : List Bs
  cp : List Bs
  off : Nat
  cs : Nat
  cnt : Nat
  q1 : Slot
  q2 : Slot
  q4 : Slot
  q5 : Slot
noncomputable def bytesP' (l : List Bs) : List PV := l.map .bytes
noncomputable def w2S (es : List Ent) (b : WS) (a : W2) : Loc := [("entries", .val (.list (es.map entP))), ("seen", .dict b.1), ("entry", a.q1), ("name", a.q2), ("key", b.2.2.2), ("local_parts", .own (bytesP' a.lp)), ("central_parts", .own (bytesP' a.cp)), ("offset", .val (.int (a.off : Nat))), ("central_size", .val (.int (a.cs : Nat))), ("count", .val (.int (a.cnt : Nat))), ("data", a.q4), ("mid", a.q5), ("end", .unb)]
noncomputable def w2g (a : W2) (e : Ent) : W2 :=
  ⟨a.lp ++ [[80, 75, 3, 4] ++ le2 20 ++ midB e.1 e.2] ++ [e.1] ++ [e.2], a.cp ++ [cenH a.off e] ++ [e.1], a.off + 30 + e.1.length + e.2.length, a.cs + 46 + e.1.length, a.cnt + 1, .val (entP e), .val (.bytes e.1), .val (.bytes e.2), .val (.bytes (midB e.1 e.2))⟩
theorem bytesP_len (l : List Bs) : (bytesP' l).length = l.length := by simp [bytesP']
theorem w2Loop (M : Cm C) (es : List Ent) (b : WS) (hl : ∀ e ∈ es, room e ≤ 16777000) (hn : es.length < 5000000) {n : Nat} (a : W2) (ha : a.lp = [] ∧ a.cp = []) :
    forL (forT (fnOf 11).body 7) ((ev C (n + 58)).ss (fnOf 11).scope (forB (fnOf 11).body 7)) (es.map entP) (w2S es b a) = .ok (.next, w2S es b (es.foldl w2g a)) := by
  refine for_foldI (w2S es b) w2g entP (fun bs a => (∀ e ∈ bs, room e ≤ 16777000) ∧ a.lp.length + 3 * bs.length ≤ 15000000 ∧ a.cp.length + 2 * bs.length ≤ 10000000) ?_ es a ⟨hl, by rw [ha.1]; simp; (exact (linL [_] [.s 3 (.v 0) (.n 5000000)] 1 (.m 3 (.v 0)) (.n 15000000) rfl hn)), by rw [ha.2]; simp; (exact (linL [_] [.s 2 (.v 0) (.n 5000000)] 1 (.m 2 (.v 0)) (.n 10000000) rfl hn))⟩ ?_
  · rintro e bs a ⟨h1, h2, h3⟩
    refine ⟨fun e' he => h1 e' (.tail _ he), ?_, ?_⟩
    · simp [w2g] at h2 ⊢; (exact (linL [_, _] [.l 1 (.a (.v 0) (.m 3 (.a (.v 1) (.n 1)))) (.n 15000000)] 1 (.a (.a (.v 0) (.n 3)) (.m 3 (.v 1))) (.n 15000000) rfl h2))
    · simp [w2g] at h3 ⊢; (exact (linL [_, _] [.l 1 (.a (.v 0) (.m 2 (.a (.v 1) (.n 1)))) (.n 10000000)] 1 (.a (.a (.v 0) (.n 2)) (.m 2 (.v 1))) (.n 10000000) rfl h3))
  · rintro e bs a ⟨h1, h2, h3⟩
    have hb0 := h1 e (.head _)
    unfold room at hb0
    have l1 : e.1.length ≤ 16777216 := by (exact (linL [_, _] [.l 1 (.a (.a (.n 30) (.v 0)) (.v 1)) (.n 16777000)] 1 (.v 0) (.n 16777216) rfl hb0))
    have l2 : e.2.length ≤ 16777216 := by (exact (linL [_, _] [.l 1 (.a (.a (.n 30) (.v 0)) (.v 1)) (.n 16777000)] 1 (.v 1) (.n 16777216) rfl hb0))
    have i0 := ent_0 e
    have i1 := ent_1 e
    simp at h2 h3
    have p1 : (bytesP' a.cp).length < 16777216 := by rw [bytesP_len]; (exact (linS [_, _] [.l 1 (.a (.v 0) (.m 2 (.a (.v 1) (.n 1)))) (.n 10000000)] 1 (.v 0) (.n 16777216) rfl h3))
    have p2 : (bytesP' a.cp ++ [PV.bytes ([80, 75, 1, 2] ++ le2 20 ++ le2 20 ++ midB e.1 e.2 ++ le2 0 ++ le2 0 ++ le2 0 ++ le4 0 ++ le4 a.off)]).length < 16777216 := by rw [List.length_append, bytesP_len]; simp; (exact (linS [_, _] [.l 1 (.a (.v 0) (.m 2 (.a (.v 1) (.n 1)))) (.n 10000000)] 1 (.a (.v 0) (.n 1)) (.n 16777216) rfl h3))
    have p3 : (bytesP' a.lp).length < 16777216 := by rw [bytesP_len]; (exact (linS [_, _] [.l 1 (.a (.v 0) (.m 3 (.a (.v 1) (.n 1)))) (.n 15000000)] 1 (.v 0) (.n 16777216) rfl h2))
    have p4 : (bytesP' a.lp ++ [PV.bytes ([80, 75, 3, 4] ++ le2 20 ++ midB e.1 e.2)]).length < 16777216 := by rw [List.length_append, bytesP_len]; simp; (exact (linS [_, _] [.l 1 (.a (.v 0) (.m 3 (.a (.v 1) (.n 1)))) (.n 15000000)] 1 (.a (.v 0) (.n 1)) (.n 16777216) rfl h2))
    have p5 : (bytesP' a.lp ++ [PV.bytes ([80, 75, 3, 4] ++ le2 20 ++ midB e.1 e.2)] ++ [PV.bytes e.1]).length < 16777216 := by rw [List.length_append, List.length_append, bytesP_len]; simp; (exact (linS [_, _] [.l 1 (.a (.v 0) (.m 3 (.a (.v 1) (.n 1)))) (.n 15000000)] 1 (.a (.a (.v 0) (.n 1)) (.n 1)) (.n 16777216) rfl h2))
    refine ⟨_, rfl, ?_⟩
    (refine' ss_nextN ?s14 ?e14 ?r14); (case s14 => first | trivial | fail); (case e14 => (try unfold wS); (try unfold w2S); first | ((with_reducible refine' Eq.trans (set_idxC ?jj14) ?jk14); (case jj14 => exact rfl); (case jk14 => dsimp only [List.set_cons_succ, List.set_cons_zero]; try exact rfl)) | ((with_reducible refine' Eq.trans (set_idx2 ?jl14 ?jm14) ?jn14); (case jl14 => exact rfl); (case jm14 => exact rfl); (case jn14 => dsimp only [List.set_cons_succ, List.set_cons_zero]; try exact rfl)) | (simp (config := { decide := true }) only [Loc.set, if_true, if_false]; exact rfl))
    (refine' ss_nextN ?s15 ?e15 ?r15); (case s15 => first | trivial | fail); (case e15 => (try unfold wS); (try unfold w2S); first | ((with_reducible refine' Eq.trans (set_idxC ?jj15) ?jk15); (case jj15 => exact rfl); (case jk15 => dsimp only [List.set_cons_succ, List.set_cons_zero]; try exact rfl)) | ((with_reducible refine' Eq.trans (set_idx2 ?jl15 ?jm15) ?jn15); (case jl15 => exact rfl); (case jm15 => exact rfl); (case jn15 => dsimp only [List.set_cons_succ, List.set_cons_zero]; try exact rfl)) | (simp (config := { decide := true }) only [Loc.set, if_true, if_false]; exact rfl))
    (refine' ss_nextN ?s16 ?e16 ?r16); (case s16 => first | trivial | fail); (case e16 => (try unfold wS); (try unfold w2S); first | ((with_reducible refine' Eq.trans (set_idxC ?jj16) ?jk16); (case jj16 => exact rfl); (case jk16 => dsimp only [List.set_cons_succ, List.set_cons_zero]; try exact rfl)) | ((with_reducible refine' Eq.trans (set_idx2 ?jl16 ?jm16) ?jn16); (case jl16 => exact rfl); (case jm16 => exact rfl); (case jn16 => dsimp only [List.set_cons_succ, List.set_cons_zero]; try exact rfl)) | (simp (config := { decide := true }) only [Loc.set, if_true, if_false]; exact rfl))
    (refine' ss_nextN ?s17 ?e17 ?r17); (case s17 => first | trivial | fail); (case e17 => (try unfold wS); (try unfold w2S); first | ((with_reducible refine' Eq.trans (set_idxC ?jj17) ?jk17); (case jj17 => exact rfl); (case jk17 => dsimp only [List.set_cons_succ, List.set_cons_zero]; try exact rfl)) | ((with_reducible refine' Eq.trans (set_idx2 ?jl17 ?jm17) ?jn17); (case jl17 => exact rfl); (case jm17 => exact rfl); (case jn17 => dsimp only [List.set_cons_succ, List.set_cons_zero]; try exact rfl)) | (simp (config := { decide := true }) only [Loc.set, if_true, if_false]; exact rfl))
    (refine' ss_nextN ?s18 ?e18 ?r18); (case s18 => first | trivial | fail); (case e18 => (try unfold wS); (try unfold w2S); first | ((with_reducible refine' Eq.trans (set_idxC ?jj18) ?jk18); (case jj18 => exact rfl); (case jk18 => dsimp only [List.set_cons_succ, List.set_cons_zero]; try exact rfl)) | ((with_reducible refine' Eq.trans (set_idx2 ?jl18 ?jm18) ?jn18); (case jl18 => exact rfl); (case jm18 => exact rfl); (case jn18 => dsimp only [List.set_cons_succ, List.set_cons_zero]; try exact rfl)) | (simp (config := { decide := true }) only [Loc.set, if_true, if_false]; exact rfl))
    (refine' ss_nextN ?s19 ?e19 ?r19); (case s19 => first | trivial | fail); (case e19 => (try unfold wS); (try unfold w2S); first | ((with_reducible refine' Eq.trans (set_idxC ?jj19) ?jk19); (case jj19 => exact rfl); (case jk19 => dsimp only [List.set_cons_succ, List.set_cons_zero]; try exact rfl)) | ((with_reducible refine' Eq.trans (set_idx2 ?jl19 ?jm19) ?jn19); (case jl19 => exact rfl); (case jm19 => exact rfl); (case jn19 => dsimp only [List.set_cons_succ, List.set_cons_zero]; try exact rfl)) | (simp (config := { decide := true }) only [Loc.set, if_true, if_false]; exact rfl))
    (refine' ss_nextN ?s20 ?e20 ?r20); (case s20 => first | trivial | fail); (case e20 => (try unfold wS); (try unfold w2S); first | ((with_reducible refine' Eq.trans (set_idxC ?jj20) ?jk20); (case jj20 => exact rfl); (case jk20 => dsimp only [List.set_cons_succ, List.set_cons_zero]; try exact rfl)) | ((with_reducible refine' Eq.trans (set_idx2 ?jl20 ?jm20) ?jn20); (case jl20 => exact rfl); (case jm20 => exact rfl); (case jn20 => dsimp only [List.set_cons_succ, List.set_cons_zero]; try exact rfl)) | (simp (config := { decide := true }) only [Loc.set, if_true, if_false]; exact rfl))
    (refine' ss_nextN ?s21 ?e21 ?r21); (case s21 => first | trivial | fail); (case e21 => (try unfold wS); (try unfold w2S); first | ((with_reducible refine' Eq.trans (set_idxC ?jj21) ?jk21); (case jj21 => exact rfl); (case jk21 => dsimp only [List.set_cons_succ, List.set_cons_zero]; try exact rfl)) | ((with_reducible refine' Eq.trans (set_idx2 ?jl21 ?jm21) ?jn21); (case jl21 => exact rfl); (case jm21 => exact rfl); (case jn21 => dsimp only [List.set_cons_succ, List.set_cons_zero]; try exact rfl)) | (simp (config := { decide := true }) only [Loc.set, if_true, if_false]; exact rfl))
    (refine' ss_nextN ?s22 ?e22 ?r22); (case s22 => first | trivial | fail); (case e22 => (try unfold wS); (try unfold w2S); first | ((with_reducible refine' Eq.trans (set_idxC ?jj22) ?jk22); (case jj22 => exact rfl); (case jk22 => dsimp only [List.set_cons_succ, List.set_cons_zero]; try exact rfl)) | ((with_reducible refine' Eq.trans (set_idx2 ?jl22 ?jm22) ?jn22); (case jl22 => exact rfl); (case jm22 => exact rfl); (case jn22 => dsimp only [List.set_cons_succ, List.set_cons_zero]; try exact rfl)) | (simp (config := { decide := true }) only [Loc.set, if_true, if_false]; exact rfl))
    (refine' ss_nextN ?s23 ?e23 ?r23); (case s23 => first | trivial | fail); (case e23 => (try unfold wS); (try unfold w2S); first | ((with_reducible refine' Eq.trans (set_idxC ?jj23) ?jk23); (case jj23 => exact rfl); (case jk23 => dsimp only [List.set_cons_succ, List.set_cons_zero]; try exact rfl)) | ((with_reducible refine' Eq.trans (set_idx2 ?jl23 ?jm23) ?jn23); (case jl23 => exact rfl); (case jm23 => exact rfl); (case jn23 => dsimp only [List.set_cons_succ, List.set_cons_zero]; try exact rfl)) | (simp (config := { decide := true }) only [Loc.set, if_true, if_false]; exact rfl))
    (refine' ss_nextN ?s24 ?e24 ?r24); (case s24 => first | trivial | fail); (case e24 => (try unfold wS); (try unfold w2S); first | ((with_reducible refine' Eq.trans (set_idxC ?jj24) ?jk24); (case jj24 => exact rfl); (case jk24 => dsimp only [List.set_cons_succ, List.set_cons_zero]; try exact rfl)) | ((with_reducible refine' Eq.trans (set_idx2 ?jl24 ?jm24) ?jn24); (case jl24 => exact rfl); (case jm24 => exact rfl); (case jn24 => dsimp only [List.set_cons_succ, List.set_cons_zero]; try exact rfl)) | (simp (config := { decide := true }) only [Loc.set, if_true, if_false]; exact rfl))
    refine ss_end ?_
    have e1 : bytesP' (a.lp ++ [[80, 75, 3, 4] ++ le2 20 ++ midB e.1 e.2] ++ [e.1] ++ [e.2]) = bytesP' a.lp ++ [PV.bytes ([80, 75, 3, 4] ++ le2 20 ++ midB e.1 e.2)] ++ [PV.bytes e.1] ++ [PV.bytes e.2] := by simp [bytesP']
    have e2 : bytesP' (a.cp ++ [cenH a.off e] ++ [e.1]) = bytesP' a.cp ++ [PV.bytes (cenH a.off e)] ++ [PV.bytes e.1] := by simp [bytesP']
    unfold w2S w2g
    rw [e1, e2]
    rfl
theorem join_bytes : ∀ l : List Bs, joinBytes (bytesP' l) = some l.flatten
  | [] => rfl
  | b :: l => by
    show (joinBytes (bytesP' l)).map (b ++ ·) = _
    rw [join_bytes l]; rfl
theorem front_cons (e : Ent) (es : List Ent) : front (e :: es) = locB e ++ front es := by simp [front]
theorem w2_fold : ∀ (es : List Ent) (a : W2), (es.foldl w2g a).lp.flatten = a.lp.flatten ++ front es ∧ (es.foldl w2g a).cp.flatten = a.cp.flatten ++ middle a.off es ∧
    (es.foldl w2g a).off = a.off + (front es).length ∧ (es.foldl w2g a).cs = a.cs + (middle a.off es).length ∧ (es.foldl w2g a).cnt = a.cnt + es.length
  | [], a => by simp [front, middle]
  | e :: es, a => by
    obtain ⟨h1, h2, h3, h4, h5⟩ := w2_fold es (w2g a e)
    rw [List.foldl_cons]
    refine ⟨?_, ?_, ?_, ?_, ?_⟩
    · rw [h1, front_cons]
      simp [w2g, locB]
    · rw [h2]
      have : (w2g a e).off = a.off + room e := by simp only [w2g, room]; (exact (linE [_, _, _] [] 1 (.a (.a (.a (.v 0) (.n 30)) (.v 1)) (.v 2)) (.a (.v 0) (.a (.a (.n 30) (.v 1)) (.v 2))) rfl rfl))
      rw [this]
      simp [w2g, middle]
    · rw [h3, front_cons, List.length_append, locB_length]
      simp only [w2g, room]; (exact (linE [_, _, _, _] [] 1 (.a (.a (.a (.a (.v 0) (.n 30)) (.v 1)) (.v 2)) (.v 3)) (.a (.v 0) (.a (.a (.a (.n 30) (.v 1)) (.v 2)) (.v 3))) rfl rfl))
    · rw [h4]
      have : (w2g a e).off = a.off + room e := by simp only [w2g, room]; (exact (linE [_, _, _] [] 1 (.a (.a (.a (.v 0) (.n 30)) (.v 1)) (.v 2)) (.a (.v 0) (.a (.a (.n 30) (.v 1)) (.v 2))) rfl rfl))
      rw [this]
      simp only [w2g, middle, List.length_append, cenH_length]; (exact (linE [_, _, _] [] 1 (.a (.a (.a (.v 0) (.n 46)) (.v 1)) (.v 2)) (.a (.v 0) (.a (.a (.n 46) (.v 1)) (.v 2))) rfl rfl))
    · rw [h5]; simp only [w2g, List.length_cons]; (exact (linE [_, _] [] 1 (.a (.a (.v 0) (.n 1)) (.v 1)) (.a (.v 0) (.a (.v 1) (.n 1))) rfl rfl))
theorem front_room : ∀ (es : List Ent), (front es).length = (es.map room).sum
  | [] => rfl
  | e :: es => by rw [front_cons, List.length_append, locB_length, front_room es]; rfl
theorem room_le {es : List Ent} {e : Ent} (h : e ∈ es) : room e ≤ (front es).length := by
  rw [front_room]
  induction es with
  | nil => cases h
  | cons x xs ih =>
    rw [List.map_cons, List.sum_cons]
    cases h with
    | head => (exact (linL [_, _] [] 1 (.v 0) (.a (.v 0) (.v 1)) rfl))
    | tail _ h => have := ih h; (exact (linL [_, _, _] [.l 1 (.v 0) (.v 1)] 1 (.v 0) (.a (.v 2) (.v 1)) rfl this))
theorem len_le (es : List Ent) : 30 * es.length ≤ (front es).length := by
  induction es with
  | nil => simp [front]
  | cons e es ih => rw [front_cons, List.length_append, locB_length]; simp only [room, List.length_cons]; (exact (linL [_, _, _, _] [.l 1 (.m 30 (.v 0)) (.v 1)] 1 (.m 30 (.a (.v 0) (.n 1))) (.a (.a (.a (.n 30) (.v 2)) (.v 3)) (.v 1)) rfl ih))
theorem write_good (M : Cm C) (es : List Ent) (n : Nat) (hg : good es = true) (hl : (arc es).length ≤ 16000000) : (ev C (n + 60)).cl ("write_archive" : Str) [.list (es.map entP)] = .ok (.bytes (arc es)) := by
  have hX := M.exc
  have hf : (front es).length + (middle 0 es).length + 22 ≤ 16000000 := by simp only [arc, List.length_append, endB_length] at hl; (exact (linL [_, _] [.l 1 (.a (.a (.v 0) (.v 1)) (.n 22)) (.n 16000000)] 1 (.a (.a (.v 0) (.v 1)) (.n 22)) (.n 16000000) rfl hl))
  have hr : ∀ e ∈ es, room e ≤ 16777000 := fun e he => by have := room_le he; (exact (linL [_, _, _] [.l 1 (.a (.a (.v 0) (.v 1)) (.n 22)) (.n 16000000), .l 1 (.v 2) (.v 0)] 1 (.v 2) (.n 16777000) rfl hf this))
  have hle := len_le es
  obtain ⟨b, hb⟩ := wF_good (wS es) es ([], .unb, .unb, .unb) hg
  obtain ⟨f1, f2, f3, f4, f5⟩ := w2_fold es ⟨[], [], 0, 0, 0, b.2.1, b.2.2.1, .unb, .unb⟩
  have j1 := join_bytes (es.foldl w2g ⟨[], [], 0, 0, 0, b.2.1, b.2.2.1, .unb, .unb⟩).lp
  have j2 := join_bytes (es.foldl w2g ⟨[], [], 0, 0, 0, b.2.1, b.2.2.1, .unb, .unb⟩).cp
  rw [f1] at j1
  rw [f2] at j2
  simp only [List.flatten_nil, List.nil_append, Nat.zero_add] at j1 j2 f3 f4 f5
  have hw := w2Loop (n := n) M es b hr (by (exact (linS [_, _, _] [.l 1 (.a (.a (.v 0) (.v 1)) (.n 22)) (.n 16000000), .l 1 (.m 30 (.v 2)) (.v 0)] 30 (.v 2) (.n 5000000) rfl hf hle))) ⟨[], [], 0, 0, 0, b.2.1, b.2.2.1, .unb, .unb⟩ ⟨rfl, rfl⟩
  generalize es.foldl w2g ⟨[], [], 0, 0, 0, b.2.1, b.2.2.1, .unb, .unb⟩ = a at j1 j2 f3 f4 f5 hw
  refine' cl_okE M.write (σ := [("entries", .val (.list (es.map entP))), ("seen", .unb), ("entry", .unb), ("name", .unb), ("key", .unb), ("local_parts", .unb), ("central_parts", .unb), ("offset", .unb), ("central_size", .unb), ("count", .unb), ("data", .unb), ("mid", .unb), ("end", .unb)]) (by kernel_rfl) ?b ?w
  case b =>
    (refine' ss_nextN ?s25 ?e25 ?r25); (case s25 => first | trivial | fail); (case e25 => (try unfold wS); (try unfold w2S); first | ((with_reducible refine' Eq.trans (set_idxC ?jj25) ?jk25); (case jj25 => exact rfl); (case jk25 => dsimp only [List.set_cons_succ, List.set_cons_zero]; try exact rfl)) | ((with_reducible refine' Eq.trans (set_idx2 ?jl25 ?jm25) ?jn25); (case jl25 => exact rfl); (case jm25 => exact rfl); (case jn25 => dsimp only [List.set_cons_succ, List.set_cons_zero]; try exact rfl)) | (simp (config := { decide := true }) only [Loc.set, if_true, if_false]; exact rfl))
    (refine' ss_next (st_for rfl (i_plain rfl ?k2 ?k3) ?k4) ?r2); (case k2 => first | trivial | fail); (case k3 => exact rfl)
    case k4 => exact (wLoop M es (fun e he => by have := hr e he; unfold room at this; (exact (linL [_, _] [.l 1 (.a (.a (.n 30) (.v 0)) (.v 1)) (.n 16777000)] 1 (.v 0) (.n 16777216) rfl this))) (by (exact (linS [_, _, _] [.l 1 (.a (.a (.v 0) (.v 1)) (.n 22)) (.n 16000000), .l 1 (.m 30 (.v 2)) (.v 0)] 30 (.v 2) (.n 16777216) rfl hf hle)))).trans hb
    (refine' ss_nextN ?s26 ?e26 ?r26); (case s26 => first | trivial | fail); (case e26 => (try unfold wS); (try unfold w2S); first | ((with_reducible refine' Eq.trans (set_idxC ?jj26) ?jk26); (case jj26 => exact rfl); (case jk26 => dsimp only [List.set_cons_succ, List.set_cons_zero]; try exact rfl)) | ((with_reducible refine' Eq.trans (set_idx2 ?jl26 ?jm26) ?jn26); (case jl26 => exact rfl); (case jm26 => exact rfl); (case jn26 => dsimp only [List.set_cons_succ, List.set_cons_zero]; try exact rfl)) | (simp (config := { decide := true }) only [Loc.set, if_true, if_false]; exact rfl))
    (refine' ss_nextN ?s27 ?e27 ?r27); (case s27 => first | trivial | fail); (case e27 => (try unfold wS); (try unfold w2S); first | ((with_reducible refine' Eq.trans (set_idxC ?jj27) ?jk27); (case jj27 => exact rfl); (case jk27 => dsimp only [List.set_cons_succ, List.set_cons_zero]; try exact rfl)) | ((with_reducible refine' Eq.trans (set_idx2 ?jl27 ?jm27) ?jn27); (case jl27 => exact rfl); (case jm27 => exact rfl); (case jn27 => dsimp only [List.set_cons_succ, List.set_cons_zero]; try exact rfl)) | (simp (config := { decide := true }) only [Loc.set, if_true, if_false]; exact rfl))
    (refine' ss_nextN ?s28 ?e28 ?r28); (case s28 => first | trivial | fail); (case e28 => (try unfold wS); (try unfold w2S); first | ((with_reducible refine' Eq.trans (set_idxC ?jj28) ?jk28); (case jj28 => exact rfl); (case jk28 => dsimp only [List.set_cons_succ, List.set_cons_zero]; try exact rfl)) | ((with_reducible refine' Eq.trans (set_idx2 ?jl28 ?jm28) ?jn28); (case jl28 => exact rfl); (case jm28 => exact rfl); (case jn28 => dsimp only [List.set_cons_succ, List.set_cons_zero]; try exact rfl)) | (simp (config := { decide := true }) only [Loc.set, if_true, if_false]; exact rfl))
    (refine' ss_nextN ?s29 ?e29 ?r29); (case s29 => first | trivial | fail); (case e29 => (try unfold wS); (try unfold w2S); first | ((with_reducible refine' Eq.trans (set_idxC ?jj29) ?jk29); (case jj29 => exact rfl); (case jk29 => dsimp only [List.set_cons_succ, List.set_cons_zero]; try exact rfl)) | ((with_reducible refine' Eq.trans (set_idx2 ?jl29 ?jm29) ?jn29); (case jl29 => exact rfl); (case jm29 => exact rfl); (case jn29 => dsimp only [List.set_cons_succ, List.set_cons_zero]; try exact rfl)) | (simp (config := { decide := true }) only [Loc.set, if_true, if_false]; exact rfl))
    (refine' ss_nextN ?s30 ?e30 ?r30); (case s30 => first | trivial | fail); (case e30 => (try unfold wS); (try unfold w2S); first | ((with_reducible refine' Eq.trans (set_idxC ?jj30) ?jk30); (case jj30 => exact rfl); (case jk30 => dsimp only [List.set_cons_succ, List.set_cons_zero]; try exact rfl)) | ((with_reducible refine' Eq.trans (set_idx2 ?jl30 ?jm30) ?jn30); (case jl30 => exact rfl); (case jm30 => exact rfl); (case jn30 => dsimp only [List.set_cons_succ, List.set_cons_zero]; try exact rfl)) | (simp (config := { decide := true }) only [Loc.set, if_true, if_false]; exact rfl))
    (refine' ss_next (st_for rfl (i_plain rfl ?m2 ?m3) ?m4) ?v2); (case m2 => first | trivial | fail); (case m3 => exact rfl)
    case m4 => exact hw
    have l1 : (front es).length ≤ lim := by rw [lim_val]; (exact (linL [_, _] [.l 1 (.a (.a (.v 0) (.v 1)) (.n 22)) (.n 16000000)] 1 (.v 0) (.n 16777216) rfl hf))
    have l2 : (middle 0 es).length ≤ lim := by rw [lim_val]; (exact (linL [_, _] [.l 1 (.a (.a (.v 0) (.v 1)) (.n 22)) (.n 16000000)] 1 (.v 1) (.n 16777216) rfl hf))
    (refine' ss_nextN ?s31 ?e31 ?r31); (case s31 => first | trivial | fail); (case e31 => (try unfold wS); (try unfold w2S); first | ((with_reducible refine' Eq.trans (set_idxC ?jj31) ?jk31); (case jj31 => exact rfl); (case jk31 => dsimp only [List.set_cons_succ, List.set_cons_zero]; try exact rfl)) | ((with_reducible refine' Eq.trans (set_idx2 ?jl31 ?jm31) ?jn31); (case jl31 => exact rfl); (case jm31 => exact rfl); (case jn31 => dsimp only [List.set_cons_succ, List.set_cons_zero]; try exact rfl)) | (simp (config := { decide := true }) only [Loc.set, if_true, if_false]; exact rfl))
    (refine' ss_retd (st_ret (x_bin (x_bin (x_join rfl rfl ?q1 j1 l1) (x_join rfl rfl ?q2 j2 l2) ?q3) ?q4 ?q5))); (case q1 => first | trivial | fail); (case q2 => first | trivial | fail); (case q3 => first | decreasing_tactic | fail); (case q4 => simp (config := { decide := true }) only [Loc.set, if_true, if_false]; exact x_loc rfl); (case q5 => refine bin_cat ?_; simp only [List.length_append, le2_length, le4_length, List.length_cons, List.length_nil]; (exact (linL [_, _] [.l 1 (.a (.a (.v 0) (.v 1)) (.n 22)) (.n 16000000)] 1 (.a (.a (.v 0) (.v 1)) (.a (.a (.a (.a (.a (.a (.a (.a (.a (.a (.a (.n 0) (.n 1)) (.n 1)) (.n 1)) (.n 1)) (.n 2)) (.n 2)) (.n 2)) (.n 2)) (.n 4)) (.n 4)) (.n 2))) (.n 16777216) rfl hf)))
  case w =>
    rw [f3, f4, f5]
    simp [arc, endB]
end
theorem tab_fold : ∀ (l : List Nat) (a : List Nat × Slot × Slot × Slot), (l.foldl (fun (a : List Nat × Slot × Slot × Slot) (j : Nat) => (a.1 ++ [cstep8 j], Slot.val (.int (j : Nat)), Slot.val (.int (cstep8 j : Nat)), Slot.val (.int ((7 : Nat) : Int)))) a).1 = a.1 ++ l.map cstep8
  | [], a => (List.append_nil _).symm
  | j :: l, a => by
    rw [List.foldl_cons, tab_fold l, List.map_cons, List.append_assoc]; rfl
theorem and_one (c : Nat) : c &&& 1 = c % 2 := Nat.and_one_is_mod c
theorem natsP_snoc' (a : List Nat) (c : Nat) : natsP a ++ [PV.int (c : Nat)] = natsP (a ++ [c]) := by simp [natsP]
theorem table_run : (ev { glob := fun _ => none, fns := fun g => if g = ("_make_table" : Str) then some (fnOf 1) else none, exc := false } 60).cl ("_make_table" : Str) [] = .ok (.list (natsP tabN)) := by
  refine' cl_okE (fn := fnOf 1) rfl (σ := [("table", .unb), ("n", .unb), ("c", .unb), ("k", .unb)]) (by kernel_rfl) ?b ?w
  case b =>
    (refine' ss_next ?s1 ?r1); (case s1 => first | trivial | fail)
    (refine' ss_next (st_for rfl (i_range rfl rfl rfl ?k1 rfl ?k2) ?k4) ?r2); (case k1 => first | trivial | fail); (case k2 => rw [lim_val]; decide)
    case k4 =>
      refine for_foldI (fun (a : List Nat × Slot × Slot × Slot) => [("table", .own (natsP a.1)), ("n", a.2.1), ("c", a.2.2.1), ("k", a.2.2.2)]) (fun (a : List Nat × Slot × Slot × Slot) (j : Nat) => (a.1 ++ [cstep8 j], Slot.val (.int (j : Nat)), Slot.val (.int (cstep8 j : Nat)), Slot.val (.int ((7 : Nat) : Int)))) (fun (j : Nat) => PV.int (j : Int))
        (fun bs a => a.1.length + bs.length ≤ 256) (fun b bs a h => ?_) (List.range 256) ([], .unb, .unb, .unb) ?_ fun j bs a h => ⟨_, rfl, ?_⟩
      · simp only [List.length_append, List.length_cons, List.length_nil] at h ⊢; omega
      · simp
      · have hl : (natsP a.1).length < 16777216 := by simp only [natsP, List.length_map]; simp only [List.length_cons] at h; omega
        have L := for_fold (t := forT (forB (fnOf 1).body 1) 1) (bd := (ev { glob := fun _ => none, fns := fun g => if g = ("_make_table" : Str) then some (fnOf 1) else none, exc := false } 57).ss (fnOf 1).scope (forB (forB (fnOf 1).body 1) 1)) (fun (q : Nat × Slot) => [("table", .own (natsP a.1)), ("n", .val (.int (j : Nat))), ("c", .val (.int (q.1 : Nat))), ("k", q.2)]) (fun (q : Nat × Slot) (k : Nat) => (cstep q.1, Slot.val (.int (k : Nat)))) (fun (j : Nat) => PV.int (j : Int)) (List.range 8) (j, a.2.2.2) fun q k _ => ⟨_, rfl, by
            by_cases hc : q.1 % 2 = 1
            · have e : cstep q.1 = 3988292384 ^^^ (q.1 / 2 ^ 1) := if_pos hc
              rw [e]
              (refine' ss_next (st_ifT ?a1 ?b1 ?c1) ?d1)
              case a1 => (refine' t_val ?x1 ?x2 ?x3); (case x1 => exact rfl); (case x2 => first | trivial | fail); (case x3 => exact rfl)
              case b1 => rw [and_one, hc]; rfl
              case c1 => (refine' ss_next ?s3 ?r3); (case s3 => first | trivial | fail); (case r3 => exact ss_nil)
              case d1 => exact ss_end rfl
            · have e : cstep q.1 = q.1 / 2 ^ 1 := if_neg hc
              have hc : q.1 % 2 = 0 := (Nat.mod_two_eq_zero_or_one _).resolve_right hc
              rw [e]
              (refine' ss_next (st_ifF ?a2 ?b2 ?c2) ?d2)
              case a2 => (refine' t_val ?x4 ?x5 ?x6); (case x4 => exact rfl); (case x5 => first | trivial | fail); (case x6 => exact rfl)
              case b2 => rw [and_one, hc]; rfl
              case c2 => (refine' ss_next ?s4 ?r4); (case s4 => first | trivial | fail); (case r4 => exact ss_nil)
              case d2 => exact ss_end rfl⟩
        (refine' ss_next ?s5 ?r5); (case s5 => first | trivial | fail)
        (refine' ss_next (st_for rfl (i_range rfl rfl rfl ?k5 rfl ?k6) ?k7) ?r6); (case k5 => first | trivial | fail); (case k6 => rw [lim_val]; decide)
        case k7 => exact L
        (refine' ss_next ?s7 ?r7); (case s7 => first | trivial | fail)
        refine ss_end ?_
        rw [← natsP_snoc']; rfl
    (refine' ss_retd ?s9); (case s9 => first | trivial | fail)
  case w => rw [tab_fold]; rfl
section
variable {C : Ctx} {n : Nat} {sc : Scope} {σ σ₁ σ₂ : Loc} {st : Stmt} {rest bd orr : List Stmt} {t it e : Expr} {p : Pos} {v u : PV} {f x : Str}
noncomputable def Res (r : Rs (Outc × Loc)) (o : Option PV) : Prop := match o with
  | none => r = .exc
  | some v => ∃ σ, r = .ok (.ret v, σ)
noncomputable def toR {α : Type} (S : α → Loc) : Option α → Rs (Outc × Loc)
  | none => .exc
  | some a => .ok (.next, S a)
noncomputable def toC : Option PV → Rs PV
  | none => .exc
  | some v => .ok v
theorem res_step {o : Option PV} (h1 : stepSt C (ev C n) sc st σ = .ok (.next, σ₁)) (he : σ₁ = σ₂) (h2 : Res ((ev C (n + 1)).ss sc rest σ₂) o) : Res ((ev C (n + 1)).ss sc (st :: rest) σ) o := by
  rw [ss_nextN h1 he rfl]; exact h2
theorem res_ret (h1 : stepSt C (ev C n) sc st σ = .ok (.ret v, σ₁)) : Res ((ev C (n + 1)).ss sc (st :: rest) σ) (some v) := ⟨_, ss_retd h1⟩
theorem res_guard {o : Option PV} {z : Bool} (h1 : (ev C n).tr sc t σ = .ok (z, σ)) (h2 : (ev C n).ss sc bd σ = .exc) (h0 : (ev C n).ss sc [] σ = .ok (.next, σ)) (h3 : z = false → Res ((ev C (n + 1)).ss sc rest σ) o) :
    Res ((ev C (n + 1)).ss sc (.If t bd [] p :: rest) σ) (if z = true then none else o) := by
  cases z with
  | true => exact ss_exc (st_ifT h1 rfl h2)
  | false =>
    have h := ss_next (rest := rest) (st_ifF (p := p) (bd := bd) h1 rfl h0) rfl
    rw [h]; exact h3 rfl
theorem res_loop {α : Type} {S : α → Loc} {oa : Option α} {k : α → Option PV} (h1 : stepSt C (ev C n) sc st σ = toR S oa) (h2 : ∀ a, oa = some a → Res ((ev C (n + 1)).ss sc rest (S a)) (k a)) :
    Res ((ev C (n + 1)).ss sc (st :: rest) σ) (oa.bind k) := by
  cases oa with
  | none => exact ss_exc h1
  | some a => rw [ss_next h1 rfl]; exact h2 a rfl
theorem cl_res {fn : Fn} {vs : List PV} {o o' : Option PV} (hf : C.fns f = some fn) (hb : bindAll fn.params vs (freshLoc fn.scope) = some σ) (h : Res ((ev C n).ss fn.scope fn.body σ) o) (he : o = o') : (ev C (n + 1)).cl f vs = toC o' := by
  subst he
  cases o with
  | none => exact cl_exc hf hb h
  | some w => obtain ⟨σ', h⟩ := h; exact cl_ok hf hb h
theorem r_guard {α : Type} {S : α → Loc} {o : Option α} {z : Bool} (h1 : (ev C n).tr sc t σ = .ok (z, σ)) (h2 : (ev C n).ss sc bd σ = .exc) (h0 : (ev C n).ss sc [] σ = .ok (.next, σ)) (h3 : z = false → (ev C (n + 1)).ss sc rest σ = toR S o) :
    (ev C (n + 1)).ss sc (.If t bd [] p :: rest) σ = toR S (if z = true then none else o) := by
  cases z with
  | true => exact ss_exc (st_ifT h1 rfl h2)
  | false =>
    have h := ss_next (rest := rest) (st_ifF (p := p) (bd := bd) h1 rfl h0) rfl
    rw [h]; exact h3 rfl
theorem for_opt {α β : Type} {bd : Loc → Rs (Outc × Loc)} (S : α → Loc) (g : α → β → Option α) (inj : β → PV) (I : List β → α → Prop) (hI : ∀ b bs a a', I (b :: bs) a → g a b = some a' → I bs a') :
    ∀ (xs : List β) (a : α), I xs a → (∀ b bs a, I (b :: bs) a → ∃ σ₁, assignP t (inj b) (S a) = some σ₁ ∧ bd σ₁ = toR S (g a b)) → forL t bd (xs.map inj) (S a) = toR S (xs.foldlM g a)
  | [], a, _, _ => rfl
  | b :: xs, a, i, h => by
    obtain ⟨σ₁, h1, h2⟩ := h b xs a i
    rw [List.foldlM_cons]
    cases hg : g a b with
    | none => rw [hg] at h2; exact f_exc h1 h2
    | some a' => rw [hg] at h2; exact f_cons h1 h2 (for_opt S g inj I hI xs a' (hI b xs a a' i hg) h)
end
set_option maxHeartbeats 1000000
local macro_rules | `(tactic| decreasing_tactic) => `(tactic| first | ((with_reducible refine get16_run (by assumption) _ _ _ ?_ ?_) <;> first | assumption | ((try simp only [List.length_nil]); omega)) | ((with_reducible refine get32_run (by assumption) _ _ _ ?_ ?_) <;> first | assumption | ((try simp only [List.length_nil]); omega)))
section
variable {C : Ctx}
theorem g2_eq (d : Bs) (i : Nat) : g2 d i = (d.getD i 0).toNat + 256 * (d.getD (i + 1) 0).toNat := by
  unfold g2
  have h := Nat.two_pow_add_eq_or_of_lt (i := 8) (b := (d.getD i 0).toNat) (by have := (d.getD i 0).toNat_lt; (exact (linS [_] [.s 1 (.v 0) (.n (2 ^ 8))] 1 (.v 0) (.n (2 ^ 8)) rfl this))) (d.getD (i + 1) 0).toNat
  rw [Nat.or_comm, Nat.mul_comm, ← h]; (exact (linE [_, _] [] 1 (.a (.m (2 ^ 8) (.v 0)) (.v 1)) (.a (.v 1) (.m 256 (.v 0))) rfl rfl))
theorem g2_lt (d : Bs) (i : Nat) : g2 d i < 65536 := by
  rw [g2_eq]
  have := (d.getD i 0).toNat_lt
  have := (d.getD (i + 1) 0).toNat_lt
  (exact (linS [_, _] [.s 1 (.v 0) (.n (2 ^ 8)), .s 256 (.v 1) (.n (2 ^ 8))] 1 (.a (.v 0) (.m 256 (.v 1))) (.n 65536) rfl (by assumption) this))
theorem g4_eq (d : Bs) (i : Nat) : g4 d i = (d.getD i 0).toNat + 256 * (d.getD (i + 1) 0).toNat + 65536 * (d.getD (i + 2) 0).toNat + 16777216 * (d.getD (i + 3) 0).toNat := by
  have h0 : g4 d i = g2 d i ||| (d.getD (i + 2) 0).toNat * 2 ^ 16 ||| (d.getD (i + 3) 0).toNat * 2 ^ 24 := rfl
  have b1 := g2_lt d i
  have b2 := (d.getD (i + 2) 0).toNat_lt
  have e1 := Nat.two_pow_add_eq_or_of_lt (i := 16) (b := g2 d i) (by (exact (linS [_] [.s 1 (.v 0) (.n 65536)] 1 (.v 0) (.n (2 ^ 16)) rfl b1))) (d.getD (i + 2) 0).toNat
  have e2 := Nat.two_pow_add_eq_or_of_lt (i := 24) (b := 2 ^ 16 * (d.getD (i + 2) 0).toNat + g2 d i) (by (exact (linS [_, _] [.s 1 (.v 0) (.n 65536), .s 65536 (.v 1) (.n (2 ^ 8))] 1 (.a (.m (2 ^ 16) (.v 1)) (.v 0)) (.n (2 ^ 24)) rfl b1 b2))) (d.getD (i + 3) 0).toNat
  rw [h0, Nat.or_comm (g2 d i), Nat.mul_comm _ (2 ^ 16), ← e1, Nat.or_comm _ (_ * 2 ^ 24), Nat.mul_comm _ (2 ^ 24), ← e2, g2_eq]
  (exact (linE [_, _, _, _] [] 1 (.a (.m (2 ^ 24) (.v 0)) (.a (.m (2 ^ 16) (.v 1)) (.a (.v 2) (.m 256 (.v 3))))) (.a (.a (.a (.v 2) (.m 256 (.v 3))) (.m 65536 (.v 1))) (.m 16777216 (.v 0))) rfl rfl))
theorem g4_lt (d : Bs) (i : Nat) : g4 d i < 4294967296 := by
  rw [g4_eq]
  have q0 := (d.getD i 0).toNat_lt
  have q1 := (d.getD (i + 1) 0).toNat_lt
  have q2 := (d.getD (i + 2) 0).toNat_lt
  have q3 := (d.getD (i + 3) 0).toNat_lt
  (exact (linS [_, _, _, _] [.s 1 (.v 0) (.n (2 ^ 8)), .s 256 (.v 1) (.n (2 ^ 8)), .s 65536 (.v 2) (.n (2 ^ 8)), .s 16777216 (.v 3) (.n (2 ^ 8))] 1 (.a (.a (.a (.v 0) (.m 256 (.v 1))) (.m 65536 (.v 2))) (.m 16777216 (.v 3))) (.n 4294967296) rfl q0 q1 q2 q3))
abbrev Itm := Bs × Nat × Nat
noncomputable def itP (t : Itm) : PV := .tuple [.bytes t.1, .int (t.2.1 : Nat), .int (t.2.2 : Nat)]
noncomputable def cutB (d : Bs) (i j : Nat) : Bs := (d.take j).drop i
noncomputable def fixB : Bs := [80, 75, 1, 2, 20, 0, 20, 0]
noncomputable def fieldB : Bs := [0, 0, 0, 0, 0, 0, 33, 0]
noncomputable def zeroB : Bs := [0, 0, 0, 0, 0, 0, 0, 0, 0, 0, 0, 0]
structure DS where
  i : Nat
  pl : Nat
  out : List Itm
  seen : List Bs
  q1 : Slot
  q2 : Slot
  q3 : Slot
  q4 : Slot
  q5 : Slot
noncomputable def dG (d : Bs) (a : DS) (k : Nat) : Option DS :=
  if decide (d.length < a.i + 46) = true then none else
  if (decide ((d.take (a.i + 8)).drop a.i ≠ fixB) || (decide ((d.take (a.i + 16)).drop (a.i + 8) ≠ fieldB) || false)) = true then none else
  if decide ((d.take (a.i + 24)).drop (a.i + 20) ≠ (d.take (a.i + 28)).drop (a.i + 24)) = true then none else
  if decide ((d.take (a.i + 42)).drop (a.i + 30) ≠ zeroB) = true then none else
  if (decide (g4 d (a.i + 42) ≠ a.pl) || (decide (g2 d (a.i + 28) = 0) || false)) = true then none else
  if decide (d.length - 22 < a.i + 46 + g2 d (a.i + 28)) = true then none else
  if a.seen.contains ((d.take (a.i + 46 + g2 d (a.i + 28))).drop (a.i + 46)) = true then none else
  some ⟨a.i + 46 + g2 d (a.i + 28), a.pl + 30 + g2 d (a.i + 28) + g4 d (a.i + 20), a.out ++ [((d.take (a.i + 46 + g2 d (a.i + 28))).drop (a.i + 46), g4 d (a.i + 20), a.pl)], a.seen ++ [(d.take (a.i + 46 + g2 d (a.i + 28))).drop (a.i + 46)],
    .val (.int (k : Nat)), .val (.int (g2 d (a.i + 28) : Nat)), .val (.int (g4 d (a.i + 20) : Nat)), .val (.bytes ((d.take (a.i + 46 + g2 d (a.i + 28))).drop (a.i + 46))), .val (.bytes ((d.take (a.i + 46 + g2 d (a.i + 28))).drop (a.i + 46)))⟩
noncomputable def dS (d : Bs) (a : DS) : Loc := [("data", .val (.bytes d)), ("n", .val (.int (d.length : Nat))), ("disk_a", .val (.int (g2 d (d.length - 18) : Nat))), ("disk_b", .val (.int (g2 d (d.length - 16) : Nat))), ("count_a", .val (.int (g2 d (d.length - 14) : Nat))), ("count_b", .val (.int (g2 d (d.length - 12) : Nat))), ("size", .val (.int (g4 d (d.length - 10) : Nat))), ("off", .val (.int (g4 d (d.length - 6) : Nat))), ("comment", .val (.int (g2 d (d.length - 2) : Nat))),
  ("fixed", .val (.bytes fixB)), ("fields", .val (.bytes fieldB)), ("zeros", .val (.bytes zeroB)), ("i", .val (.int (a.i : Nat))), ("at", .val (.int (a.pl : Nat))), ("out", .own (a.out.map itP)), ("seen", .dict a.seen), ("k", a.q1), ("name_len", a.q2), ("s", a.q3), ("name", a.q4), ("key", a.q5)]
theorem dG_some {d : Bs} {a a' : DS} {k : Nat} (h : dG d a k = some a') :
    (a.i + 46 ≤ d.length ∧ (d.take (a.i + 8)).drop a.i = fixB ∧ (d.take (a.i + 16)).drop (a.i + 8) = fieldB ∧ (d.take (a.i + 24)).drop (a.i + 20) = (d.take (a.i + 28)).drop (a.i + 24) ∧ (d.take (a.i + 42)).drop (a.i + 30) = zeroB ∧ g4 d (a.i + 42) = a.pl ∧ g2 d (a.i + 28) ≠ 0 ∧
    a.i + 46 + g2 d (a.i + 28) ≤ d.length - 22 ∧ a.seen.contains ((d.take (a.i + 46 + g2 d (a.i + 28))).drop (a.i + 46)) = false) ∧
    a'.i = a.i + 46 + g2 d (a.i + 28) ∧ a'.pl = a.pl + 30 + g2 d (a.i + 28) + g4 d (a.i + 20) ∧ a'.out = a.out ++ [((d.take (a.i + 46 + g2 d (a.i + 28))).drop (a.i + 46), g4 d (a.i + 20), a.pl)] ∧ a'.seen = a.seen ++ [(d.take (a.i + 46 + g2 d (a.i + 28))).drop (a.i + 46)] := by
  unfold dG at h
  obtain ⟨c1, h⟩ := Option.ite_none_left_eq_some.mp h
  obtain ⟨c2, h⟩ := Option.ite_none_left_eq_some.mp h
  obtain ⟨c3, h⟩ := Option.ite_none_left_eq_some.mp h
  obtain ⟨c4, h⟩ := Option.ite_none_left_eq_some.mp h
  obtain ⟨c5, h⟩ := Option.ite_none_left_eq_some.mp h
  obtain ⟨c6, h⟩ := Option.ite_none_left_eq_some.mp h
  obtain ⟨c7, h⟩ := Option.ite_none_left_eq_some.mp h
  have h' := Option.some.inj h
  clear h
  subst h'
  simp only [Bool.or_false, Bool.or_eq_true, decide_eq_true_eq, not_or, Decidable.not_not, Nat.not_lt, Bool.not_eq_true] at c1 c2 c3 c4 c5 c6 c7
  exact ⟨⟨c1, c2.1, c2.2, c3, c4, c5.1, c5.2, c6, c7⟩, rfl, rfl, rfl, rfl⟩
theorem dLoop (M : Cm C) (d : Bs) (h22 : 22 ≤ d.length) (hl : d.length ≤ 16777216) {n m : Nat} (hm : m ≤ 65536) (a : DS) (ha : a.out = [] ∧ a.seen = []) :
    forL (forT (fnOf 12).body 18) ((ev C (n + 28)).ss (fnOf 12).scope (forB (fnOf 12).body 18)) ((List.range m).map fun (j : Nat) => PV.int (j : Int)) (dS d a) = toR (dS d) ((List.range m).foldlM (dG d) a) := by
  have hX := M.exc
  refine for_opt (dS d) (dG d) (fun (j : Nat) => PV.int (j : Int)) (fun bs a => a.out.length + bs.length ≤ 65536 ∧ a.seen.length + bs.length ≤ 65536) ?_ _ a ⟨by rw [ha.1]; simp; (exact (linL [_] [.l 1 (.v 0) (.n 65536)] 1 (.v 0) (.n 65536) rfl hm)), by rw [ha.2]; simp; (exact (linL [_] [.l 1 (.v 0) (.n 65536)] 1 (.v 0) (.n 65536) rfl hm))⟩ ?_
  · rintro b bs a a' ⟨h1, h2⟩ hg
    obtain ⟨_, _, _, e3, e4⟩ := dG_some hg
    rw [e3, e4]
    simp at h1 h2 ⊢; (exact (And.intro (linL [_, _] [.l 1 (.a (.v 0) (.a (.v 1) (.n 1))) (.n 65536)] 1 (.a (.a (.v 0) (.n 1)) (.v 1)) (.n 65536) rfl h1) (linL [_, _] [.l 1 (.a (.v 0) (.a (.v 1) (.n 1))) (.n 65536)] 1 (.a (.a (.v 0) (.n 1)) (.v 1)) (.n 65536) rfl h2)))
  · rintro k bs a ⟨h1, h2⟩
    simp only [List.length_cons] at h1 h2
    refine ⟨_, rfl, ?_⟩
    unfold dG
    (refine' r_guard ?a2 ?b2 ?c2 ?d2); (case a2 => first | trivial | fail); (case b2 => exact ss_exc (st_raise hX rfl rfl)); (case c2 => exact ss_nil)
    intro g1
    have i1 : a.i + 46 ≤ d.length := by simpa using g1
    (refine' r_guard ?a3 ?b3 ?c3 ?d3); (case a3 => first | trivial | fail); (case b3 => exact ss_exc (st_raise hX rfl rfl)); (case c3 => exact ss_nil)
    intro g2
    (refine' r_guard ?a4 ?b4 ?c4 ?d4); (case a4 => first | trivial | fail); (case b4 => exact ss_exc (st_raise hX rfl rfl)); (case c4 => exact ss_nil)
    intro g3
    (refine' r_guard ?a5 ?b5 ?c5 ?d5); (case a5 => first | trivial | fail); (case b5 => exact ss_exc (st_raise hX rfl rfl)); (case c5 => exact ss_nil)
    intro g4
    (refine' ss_nextN ?s6 ?e6 ?r6); (case s6 => first | trivial | fail); (case e6 => (try unfold dS); first | ((with_reducible refine' Eq.trans (set_idxC ?jj6) ?jk6); (case jj6 => exact rfl); (case jk6 => dsimp only [List.set_cons_succ, List.set_cons_zero]; try exact rfl)) | ((with_reducible refine' Eq.trans (set_idx2 ?jl6 ?jm6) ?jn6); (case jl6 => exact rfl); (case jm6 => exact rfl); (case jn6 => dsimp only [List.set_cons_succ, List.set_cons_zero]; try exact rfl)) | (simp (config := { decide := true }) only [Loc.set, if_true, if_false]; exact rfl))
    (refine' ss_nextN ?s7 ?e7 ?r7); (case s7 => first | trivial | fail); (case e7 => (try unfold dS); first | ((with_reducible refine' Eq.trans (set_idxC ?jj7) ?jk7); (case jj7 => exact rfl); (case jk7 => dsimp only [List.set_cons_succ, List.set_cons_zero]; try exact rfl)) | ((with_reducible refine' Eq.trans (set_idx2 ?jl7 ?jm7) ?jn7); (case jl7 => exact rfl); (case jm7 => exact rfl); (case jn7 => dsimp only [List.set_cons_succ, List.set_cons_zero]; try exact rfl)) | (simp (config := { decide := true }) only [Loc.set, if_true, if_false]; exact rfl))
    (refine' r_guard ?a8 ?b8 ?c8 ?d8); (case a8 => first | trivial | fail); (case b8 => exact ss_exc (st_raise hX rfl rfl)); (case c8 => exact ss_nil)
    intro g5
    (refine' r_guard ?a9 ?b9 ?c9 ?d9); (case a9 => first | trivial | fail); (case b9 => exact ss_exc (st_raise hX rfl rfl)); (case c9 => exact ss_nil)
    intro g6
    (refine' ss_nextN ?s10 ?e10 ?r10); (case s10 => first | trivial | fail); (case e10 => (try unfold dS); first | ((with_reducible refine' Eq.trans (set_idxC ?jj10) ?jk10); (case jj10 => exact rfl); (case jk10 => dsimp only [List.set_cons_succ, List.set_cons_zero]; try exact rfl)) | ((with_reducible refine' Eq.trans (set_idx2 ?jl10 ?jm10) ?jn10); (case jl10 => exact rfl); (case jm10 => exact rfl); (case jn10 => dsimp only [List.set_cons_succ, List.set_cons_zero]; try exact rfl)) | (simp (config := { decide := true }) only [Loc.set, if_true, if_false]; exact rfl))
    (refine' ss_nextN ?s11 ?e11 ?r11); (case s11 => first | trivial | fail); (case e11 => (try unfold dS); first | ((with_reducible refine' Eq.trans (set_idxC ?jj11) ?jk11); (case jj11 => exact rfl); (case jk11 => dsimp only [List.set_cons_succ, List.set_cons_zero]; try exact rfl)) | ((with_reducible refine' Eq.trans (set_idx2 ?jl11 ?jm11) ?jn11); (case jl11 => exact rfl); (case jm11 => exact rfl); (case jn11 => dsimp only [List.set_cons_succ, List.set_cons_zero]; try exact rfl)) | (simp (config := { decide := true }) only [Loc.set, if_true, if_false]; exact rfl))
    (refine' r_guard ?a12 ?b12 ?c12 ?d12); (case a12 => first | trivial | fail); (case b12 => exact ss_exc (st_raise hX rfl rfl)); (case c12 => exact ss_nil)
    intro g7
    have s1 : a.seen.length < 16777216 := by (exact (linS [_, _] [.l 1 (.a (.v 0) (.a (.v 1) (.n 1))) (.n 65536)] 1 (.v 0) (.n 16777216) rfl h2))
    (refine' ss_nextN ?s13 ?e13 ?r13); (case s13 => first | trivial | fail); (case e13 => (try unfold dS); first | ((with_reducible refine' Eq.trans (set_idxC ?jj13) ?jk13); (case jj13 => exact rfl); (case jk13 => dsimp only [List.set_cons_succ, List.set_cons_zero]; try exact rfl)) | ((with_reducible refine' Eq.trans (set_idx2 ?jl13 ?jm13) ?jn13); (case jl13 => exact rfl); (case jm13 => exact rfl); (case jn13 => dsimp only [List.set_cons_succ, List.set_cons_zero]; try exact rfl)) | (simp (config := { decide := true }) only [Loc.set, if_true, if_false]; exact rfl))
    have s2 : (a.out.map itP).length < 16777216 := by rw [List.length_map]; (exact (linS [_, _] [.l 1 (.a (.v 0) (.a (.v 1) (.n 1))) (.n 65536)] 1 (.v 0) (.n 16777216) rfl h1))
    (refine' ss_nextN ?s14 ?e14 ?r14); (case s14 => first | trivial | fail); (case e14 => (try unfold dS); first | ((with_reducible refine' Eq.trans (set_idxC ?jj14) ?jk14); (case jj14 => exact rfl); (case jk14 => dsimp only [List.set_cons_succ, List.set_cons_zero]; try exact rfl)) | ((with_reducible refine' Eq.trans (set_idx2 ?jl14 ?jm14) ?jn14); (case jl14 => exact rfl); (case jm14 => exact rfl); (case jn14 => dsimp only [List.set_cons_succ, List.set_cons_zero]; try exact rfl)) | (simp (config := { decide := true }) only [Loc.set, if_true, if_false]; exact rfl))
    (refine' ss_nextN ?s15 ?e15 ?r15); (case s15 => first | trivial | fail); (case e15 => (try unfold dS); first | ((with_reducible refine' Eq.trans (set_idxC ?jj15) ?jk15); (case jj15 => exact rfl); (case jk15 => dsimp only [List.set_cons_succ, List.set_cons_zero]; try exact rfl)) | ((with_reducible refine' Eq.trans (set_idx2 ?jl15 ?jm15) ?jn15); (case jl15 => exact rfl); (case jm15 => exact rfl); (case jn15 => dsimp only [List.set_cons_succ, List.set_cons_zero]; try exact rfl)) | (simp (config := { decide := true }) only [Loc.set, if_true, if_false]; exact rfl))
    (refine' ss_nextN ?s16 ?e16 ?r16); (case s16 => first | trivial | fail); (case e16 => (try unfold dS); first | ((with_reducible refine' Eq.trans (set_idxC ?jj16) ?jk16); (case jj16 => exact rfl); (case jk16 => dsimp only [List.set_cons_succ, List.set_cons_zero]; try exact rfl)) | ((with_reducible refine' Eq.trans (set_idx2 ?jl16 ?jm16) ?jn16); (case jl16 => exact rfl); (case jm16 => exact rfl); (case jn16 => dsimp only [List.set_cons_succ, List.set_cons_zero]; try exact rfl)) | (simp (config := { decide := true }) only [Loc.set, if_true, if_false]; exact rfl))
    refine ss_end ?_
    rw [g7]
    simp only [dS, List.map_append, List.map_cons, List.map_nil, itP, Bool.false_eq_true, if_false]
noncomputable def dirP (d : Bs) : Option (List Itm) :=
  if (decide (d.length < 22) || (decide ((d.take (d.length - 18)).drop (d.length - 22) ≠ [80, 75, 5, 6]) || false)) = true then none else
  if (decide (g2 d (d.length - 18) ≠ 0) || (decide (g2 d (d.length - 16) ≠ 0) || (decide (g2 d (d.length - 2) ≠ 0) || (decide (g2 d (d.length - 14) ≠ g2 d (d.length - 12)) || false)))) = true then none else
  if decide (g4 d (d.length - 6) + g4 d (d.length - 10) + 22 ≠ d.length) = true then none else
  ((List.range (g2 d (d.length - 14))).foldlM (dG d) ⟨g4 d (d.length - 6), 0, [], [], .unb, .unb, .unb, .unb, .unb⟩).bind fun a =>
  if (decide (a.pl ≠ g4 d (d.length - 6)) || (decide (a.i ≠ d.length - 22) || false)) = true then none else some a.out
noncomputable def dirO (d : Bs) : Option PV :=
  if (decide (d.length < 22) || (decide ((d.take (d.length - 18)).drop (d.length - 22) ≠ [80, 75, 5, 6]) || false)) = true then none else
  if (decide (g2 d (d.length - 18) ≠ 0) || (decide (g2 d (d.length - 16) ≠ 0) || (decide (g2 d (d.length - 2) ≠ 0) || (decide (g2 d (d.length - 14) ≠ g2 d (d.length - 12)) || false)))) = true then none else
  if decide (g4 d (d.length - 6) + g4 d (d.length - 10) + 22 ≠ d.length) = true then none else
  ((List.range (g2 d (d.length - 14))).foldlM (dG d) ⟨g4 d (d.length - 6), 0, [], [], .unb, .unb, .unb, .unb, .unb⟩).bind fun a =>
  if (decide (a.pl ≠ g4 d (d.length - 6)) || (decide (a.i ≠ d.length - 22) || false)) = true then none else some (.list (a.out.map itP))
theorem dirO_eq (d : Bs) : dirO d = (dirP d).map fun l => .list (l.map itP) := by
  unfold dirO dirP
  split
  · rfl
  · split
    · rfl
    · split
      · rfl
      · rw [Option.map_bind]
        congr 1
        funext a
        simp only [Function.comp]
        split <;> rfl
theorem dir_run (M : Cm C) (d : Bs) (n : Nat) (hl : d.length ≤ 16777216) : (ev C (n + 30)).cl ("_directory" : Str) [.bytes d] = toC ((dirP d).map fun l => .list (l.map itP)) := by
  have hX := M.exc
  have hF : builtin1 ("bytes" : Str) (.list [.int ((0 : Nat) : Int), .int ((0 : Nat) : Int), .int ((0 : Nat) : Int), .int ((0 : Nat) : Int), .int ((0 : Nat) : Int), .int ((0 : Nat) : Int), .int ((33 : Nat) : Int), .int ((0 : Nat) : Int)]) = some (.bytes fieldB) := rfl
  have hZ : binop .Mult (.bytes [0]) (.int ((12 : Nat) : Int)) = some (.bytes zeroB) := rfl
  refine' cl_res (o := dirO d) M.dir (σ := [("data", .val (.bytes d)), ("n", .unb), ("disk_a", .unb), ("disk_b", .unb), ("count_a", .unb), ("count_b", .unb), ("size", .unb), ("off", .unb), ("comment", .unb), ("fixed", .unb), ("fields", .unb), ("zeros", .unb), ("i", .unb), ("at", .unb), ("out", .unb), ("seen", .unb), ("k", .unb), ("name_len", .unb), ("s", .unb), ("name", .unb), ("key", .unb)]) (by kernel_rfl) ?b ?w
  case b =>
    unfold dirO
    (refine' res_step ?s17 ?e17 ?r17); (case s17 => first | trivial | fail); (case e17 => (try unfold dS); first | ((with_reducible refine' Eq.trans (set_idxC ?jj17) ?jk17); (case jj17 => exact rfl); (case jk17 => dsimp only [List.set_cons_succ, List.set_cons_zero]; try exact rfl)) | ((with_reducible refine' Eq.trans (set_idx2 ?jl17 ?jm17) ?jn17); (case jl17 => exact rfl); (case jm17 => exact rfl); (case jn17 => dsimp only [List.set_cons_succ, List.set_cons_zero]; try exact rfl)) | (simp (config := { decide := true }) only [Loc.set, if_true, if_false]; exact rfl))
    (refine' res_guard ?a18 ?b18 ?c18 ?d18); (case a18 => first | trivial | fail); (case b18 => exact ss_exc (st_raise hX rfl rfl)); (case c18 => exact ss_nil)
    intro g1
    have h22 : 22 ≤ d.length := by simp at g1; (exact (linL [_] [.l 1 (.n 22) (.v 0)] 1 (.n 22) (.v 0) rfl g1.1))
    (refine' res_step ?s19 ?e19 ?r19); (case s19 => first | trivial | fail); (case e19 => (try unfold dS); first | ((with_reducible refine' Eq.trans (set_idxC ?jj19) ?jk19); (case jj19 => exact rfl); (case jk19 => dsimp only [List.set_cons_succ, List.set_cons_zero]; try exact rfl)) | ((with_reducible refine' Eq.trans (set_idx2 ?jl19 ?jm19) ?jn19); (case jl19 => exact rfl); (case jm19 => exact rfl); (case jn19 => dsimp only [List.set_cons_succ, List.set_cons_zero]; try exact rfl)) | (simp (config := { decide := true }) only [Loc.set, if_true, if_false]; exact rfl))
    (refine' res_step ?s20 ?e20 ?r20); (case s20 => first | trivial | fail); (case e20 => (try unfold dS); first | ((with_reducible refine' Eq.trans (set_idxC ?jj20) ?jk20); (case jj20 => exact rfl); (case jk20 => dsimp only [List.set_cons_succ, List.set_cons_zero]; try exact rfl)) | ((with_reducible refine' Eq.trans (set_idx2 ?jl20 ?jm20) ?jn20); (case jl20 => exact rfl); (case jm20 => exact rfl); (case jn20 => dsimp only [List.set_cons_succ, List.set_cons_zero]; try exact rfl)) | (simp (config := { decide := true }) only [Loc.set, if_true, if_false]; exact rfl))
    (refine' res_step ?s21 ?e21 ?r21); (case s21 => first | trivial | fail); (case e21 => (try unfold dS); first | ((with_reducible refine' Eq.trans (set_idxC ?jj21) ?jk21); (case jj21 => exact rfl); (case jk21 => dsimp only [List.set_cons_succ, List.set_cons_zero]; try exact rfl)) | ((with_reducible refine' Eq.trans (set_idx2 ?jl21 ?jm21) ?jn21); (case jl21 => exact rfl); (case jm21 => exact rfl); (case jn21 => dsimp only [List.set_cons_succ, List.set_cons_zero]; try exact rfl)) | (simp (config := { decide := true }) only [Loc.set, if_true, if_false]; exact rfl))
    (refine' res_step ?s22 ?e22 ?r22); (case s22 => first | trivial | fail); (case e22 => (try unfold dS); first | ((with_reducible refine' Eq.trans (set_idxC ?jj22) ?jk22); (case jj22 => exact rfl); (case jk22 => dsimp only [List.set_cons_succ, List.set_cons_zero]; try exact rfl)) | ((with_reducible refine' Eq.trans (set_idx2 ?jl22 ?jm22) ?jn22); (case jl22 => exact rfl); (case jm22 => exact rfl); (case jn22 => dsimp only [List.set_cons_succ, List.set_cons_zero]; try exact rfl)) | (simp (config := { decide := true }) only [Loc.set, if_true, if_false]; exact rfl))
    (refine' res_step ?s23 ?e23 ?r23); (case s23 => first | trivial | fail); (case e23 => (try unfold dS); first | ((with_reducible refine' Eq.trans (set_idxC ?jj23) ?jk23); (case jj23 => exact rfl); (case jk23 => dsimp only [List.set_cons_succ, List.set_cons_zero]; try exact rfl)) | ((with_reducible refine' Eq.trans (set_idx2 ?jl23 ?jm23) ?jn23); (case jl23 => exact rfl); (case jm23 => exact rfl); (case jn23 => dsimp only [List.set_cons_succ, List.set_cons_zero]; try exact rfl)) | (simp (config := { decide := true }) only [Loc.set, if_true, if_false]; exact rfl))
    (refine' res_step ?s24 ?e24 ?r24); (case s24 => first | trivial | fail); (case e24 => (try unfold dS); first | ((with_reducible refine' Eq.trans (set_idxC ?jj24) ?jk24); (case jj24 => exact rfl); (case jk24 => dsimp only [List.set_cons_succ, List.set_cons_zero]; try exact rfl)) | ((with_reducible refine' Eq.trans (set_idx2 ?jl24 ?jm24) ?jn24); (case jl24 => exact rfl); (case jm24 => exact rfl); (case jn24 => dsimp only [List.set_cons_succ, List.set_cons_zero]; try exact rfl)) | (simp (config := { decide := true }) only [Loc.set, if_true, if_false]; exact rfl))
    (refine' res_step ?s25 ?e25 ?r25); (case s25 => first | trivial | fail); (case e25 => (try unfold dS); first | ((with_reducible refine' Eq.trans (set_idxC ?jj25) ?jk25); (case jj25 => exact rfl); (case jk25 => dsimp only [List.set_cons_succ, List.set_cons_zero]; try exact rfl)) | ((with_reducible refine' Eq.trans (set_idx2 ?jl25 ?jm25) ?jn25); (case jl25 => exact rfl); (case jm25 => exact rfl); (case jn25 => dsimp only [List.set_cons_succ, List.set_cons_zero]; try exact rfl)) | (simp (config := { decide := true }) only [Loc.set, if_true, if_false]; exact rfl))
    (refine' res_guard ?a26 ?b26 ?c26 ?d26); (case a26 => first | trivial | fail); (case b26 => exact ss_exc (st_raise hX rfl rfl)); (case c26 => exact ss_nil)
    intro g2
    (refine' res_guard ?a27 ?b27 ?c27 ?d27); (case a27 => first | trivial | fail); (case b27 => exact ss_exc (st_raise hX rfl rfl)); (case c27 => exact ss_nil)
    intro g3
    (refine' res_step ?s28 ?e28 ?r28); (case s28 => first | trivial | fail); (case e28 => (try unfold dS); first | ((with_reducible refine' Eq.trans (set_idxC ?jj28) ?jk28); (case jj28 => exact rfl); (case jk28 => dsimp only [List.set_cons_succ, List.set_cons_zero]; try exact rfl)) | ((with_reducible refine' Eq.trans (set_idx2 ?jl28 ?jm28) ?jn28); (case jl28 => exact rfl); (case jm28 => exact rfl); (case jn28 => dsimp only [List.set_cons_succ, List.set_cons_zero]; try exact rfl)) | (simp (config := { decide := true }) only [Loc.set, if_true, if_false]; exact rfl))
    (refine' res_step ?s29 ?e29 ?r29); (case s29 => first | trivial | fail); (case e29 => (try unfold dS); first | ((with_reducible refine' Eq.trans (set_idxC ?jj29) ?jk29); (case jj29 => exact rfl); (case jk29 => dsimp only [List.set_cons_succ, List.set_cons_zero]; try exact rfl)) | ((with_reducible refine' Eq.trans (set_idx2 ?jl29 ?jm29) ?jn29); (case jl29 => exact rfl); (case jm29 => exact rfl); (case jn29 => dsimp only [List.set_cons_succ, List.set_cons_zero]; try exact rfl)) | (simp (config := { decide := true }) only [Loc.set, if_true, if_false]; exact rfl))
    (refine' res_step ?s30 ?e30 ?r30); (case s30 => first | trivial | fail); (case e30 => (try unfold dS); first | ((with_reducible refine' Eq.trans (set_idxC ?jj30) ?jk30); (case jj30 => exact rfl); (case jk30 => dsimp only [List.set_cons_succ, List.set_cons_zero]; try exact rfl)) | ((with_reducible refine' Eq.trans (set_idx2 ?jl30 ?jm30) ?jn30); (case jl30 => exact rfl); (case jm30 => exact rfl); (case jn30 => dsimp only [List.set_cons_succ, List.set_cons_zero]; try exact rfl)) | (simp (config := { decide := true }) only [Loc.set, if_true, if_false]; exact rfl))
    (refine' res_step ?s31 ?e31 ?r31); (case s31 => first | trivial | fail); (case e31 => (try unfold dS); first | ((with_reducible refine' Eq.trans (set_idxC ?jj31) ?jk31); (case jj31 => exact rfl); (case jk31 => dsimp only [List.set_cons_succ, List.set_cons_zero]; try exact rfl)) | ((with_reducible refine' Eq.trans (set_idx2 ?jl31 ?jm31) ?jn31); (case jl31 => exact rfl); (case jm31 => exact rfl); (case jn31 => dsimp only [List.set_cons_succ, List.set_cons_zero]; try exact rfl)) | (simp (config := { decide := true }) only [Loc.set, if_true, if_false]; exact rfl))
    (refine' res_step ?s32 ?e32 ?r32); (case s32 => first | trivial | fail); (case e32 => (try unfold dS); first | ((with_reducible refine' Eq.trans (set_idxC ?jj32) ?jk32); (case jj32 => exact rfl); (case jk32 => dsimp only [List.set_cons_succ, List.set_cons_zero]; try exact rfl)) | ((with_reducible refine' Eq.trans (set_idx2 ?jl32 ?jm32) ?jn32); (case jl32 => exact rfl); (case jm32 => exact rfl); (case jn32 => dsimp only [List.set_cons_succ, List.set_cons_zero]; try exact rfl)) | (simp (config := { decide := true }) only [Loc.set, if_true, if_false]; exact rfl))
    (refine' res_step ?s33 ?e33 ?r33); (case s33 => first | trivial | fail); (case e33 => (try unfold dS); first | ((with_reducible refine' Eq.trans (set_idxC ?jj33) ?jk33); (case jj33 => exact rfl); (case jk33 => dsimp only [List.set_cons_succ, List.set_cons_zero]; try exact rfl)) | ((with_reducible refine' Eq.trans (set_idx2 ?jl33 ?jm33) ?jn33); (case jl33 => exact rfl); (case jm33 => exact rfl); (case jn33 => dsimp only [List.set_cons_succ, List.set_cons_zero]; try exact rfl)) | (simp (config := { decide := true }) only [Loc.set, if_true, if_false]; exact rfl))
    (refine' res_step ?s34 ?e34 ?r34); (case s34 => first | trivial | fail); (case e34 => (try unfold dS); first | ((with_reducible refine' Eq.trans (set_idxC ?jj34) ?jk34); (case jj34 => exact rfl); (case jk34 => dsimp only [List.set_cons_succ, List.set_cons_zero]; try exact rfl)) | ((with_reducible refine' Eq.trans (set_idx2 ?jl34 ?jm34) ?jn34); (case jl34 => exact rfl); (case jm34 => exact rfl); (case jn34 => dsimp only [List.set_cons_succ, List.set_cons_zero]; try exact rfl)) | (simp (config := { decide := true }) only [Loc.set, if_true, if_false]; exact rfl))
    have hc := g2_lt d (d.length - 14)
    (refine' res_loop (st_for rfl (i_range rfl rfl rfl ?l1 rfl ?l2) ?l3) ?l4); (case l1 => first | trivial | fail); (case l2 => rw [lim_val]; (exact (linL [_] [.s 1 (.v 0) (.n 65536)] 1 (.v 0) (.n 16777216) rfl hc)))
    case l3 => exact dLoop M d h22 hl (by (exact (linL [_] [.s 1 (.v 0) (.n 65536)] 1 (.v 0) (.n 65536) rfl hc))) ⟨g4 d (d.length - 6), 0, [], [], .unb, .unb, .unb, .unb, .unb⟩ ⟨rfl, rfl⟩
    intro a ha
    (refine' res_guard ?a35 ?b35 ?c35 ?d35); (case a35 => first | trivial | fail); (case b35 => exact ss_exc (st_raise hX rfl rfl)); (case c35 => exact ss_nil)
    intro g4
    (refine' res_ret ?s36); (case s36 => first | trivial | fail)
  case w => exact dirO_eq d
end
set_option maxHeartbeats 1000000
section
variable {C : Ctx}
theorem dF_len (d : Bs) : ∀ (xs : List Nat) (a a' : DS), xs.foldlM (dG d) a = some a' → a'.out.length = a.out.length + xs.length
  | [], a, a', h => by cases h; rfl
  | x :: xs, a, a', h => by
    rw [List.foldlM_cons] at h
    cases hg : dG d a x with
    | none => rw [hg] at h; cases h
    | some b =>
      rw [hg] at h
      have e := dF_len d xs b a' h
      obtain ⟨_, _, _, e3, _⟩ := dG_some hg
      rw [e, e3]; simp; (exact (linE [_, _] [] 1 (.a (.a (.v 0) (.n 1)) (.v 1)) (.a (.v 0) (.a (.v 1) (.n 1))) rfl rfl))
theorem dirP_some {d : Bs} {l : List Itm} (h : dirP d = some l) : 22 ≤ d.length ∧ (d.take (d.length - 18)).drop (d.length - 22) = [80, 75, 5, 6] ∧ g2 d (d.length - 18) = 0 ∧ g2 d (d.length - 16) = 0 ∧ g2 d (d.length - 2) = 0 ∧ g2 d (d.length - 14) = g2 d (d.length - 12) ∧ g4 d (d.length - 6) + g4 d (d.length - 10) + 22 = d.length ∧
    ∃ a, (List.range (g2 d (d.length - 14))).foldlM (dG d) ⟨g4 d (d.length - 6), 0, [], [], .unb, .unb, .unb, .unb, .unb⟩ = some a ∧ a.pl = g4 d (d.length - 6) ∧ a.i = d.length - 22 ∧ l = a.out := by
  unfold dirP at h
  obtain ⟨c1, h⟩ := Option.ite_none_left_eq_some.mp h
  obtain ⟨c2, h⟩ := Option.ite_none_left_eq_some.mp h
  obtain ⟨c3, h⟩ := Option.ite_none_left_eq_some.mp h
  obtain ⟨a, ha, h⟩ := Option.bind_eq_some_iff.mp h
  obtain ⟨c4, h⟩ := Option.ite_none_left_eq_some.mp h
  simp only [Bool.or_false, Bool.or_eq_true, decide_eq_true_eq, not_or, Decidable.not_not, Nat.not_lt, Bool.not_eq_true] at c1 c2 c3 c4
  exact ⟨c1.1, c1.2, c2.1, c2.2.1, c2.2.2.1, c2.2.2.2, c3, a, ha, c4.1, c4.2, (Option.some.inj h).symm⟩
theorem dirP_len {d : Bs} {l : List Itm} (h : dirP d = some l) : l.length < 65536 := by
  obtain ⟨_, _, _, _, _, _, _, a, ha, _, _, rfl⟩ := dirP_some h
  have := dF_len d _ _ _ ha
  have := g2_lt d (d.length - 14)
  simp at *; (exact (linS [_, _] [.s 1 (.v 0) (.n 65536), .q 1 (.v 1) (.v 0)] 1 (.v 1) (.n 65536) rfl (by assumption) this))
theorem it_0 (t : Itm) : itemP (itP t) (.int ((0 : Nat) : Int)) = some (.bytes t.1) := item_t rfl (Nat.le_of_ble_eq_true rfl)
theorem it_1 (t : Itm) : itemP (itP t) (.int ((1 : Nat) : Int)) = some (.int (t.2.1 : Nat)) := item_t rfl (Nat.le_of_ble_eq_true rfl)
theorem it_2 (t : Itm) : itemP (itP t) (.int ((2 : Nat) : Int)) = some (.int (t.2.2 : Nat)) := item_t rfl (Nat.le_of_ble_eq_true rfl)
noncomputable def nS (d : Bs) (a : List Bs × Slot) : Loc := [("data", .val (.bytes d)), ("result", .own (bytesP' a.1)), ("item", a.2)]
theorem nLoop (M : Cm C) (d : Bs) (l : List Itm) (hn : l.length < 65536) {n : Nat} : forL (forT (fnOf 13).body 1) ((ev C (n + 28)).ss (fnOf 13).scope (forB (fnOf 13).body 1)) (l.map itP) (nS d ([], .unb)) = .ok (.next, nS d (l.foldl (fun a t => (a.1 ++ [t.1], .val (itP t))) ([], .unb))) := by
  refine for_foldI (nS d) (fun (a : List Bs × Slot) (t : Itm) => (a.1 ++ [t.1], Slot.val (itP t))) itP (fun bs a => a.1.length + bs.length < 65536) ?_ l _ (by simpa using hn) ?_
  · intro b bs a h; simp at h ⊢; (exact (linS [_, _] [.s 1 (.a (.v 0) (.a (.v 1) (.n 1))) (.n 65536)] 1 (.a (.a (.v 0) (.n 1)) (.v 1)) (.n 65536) rfl h))
  · intro t bs a h
    have i0 := it_0 t
    have p1 : (bytesP' a.1).length < 16777216 := by rw [bytesP_len]; simp at h; (exact (linS [_, _] [.s 1 (.a (.v 0) (.a (.v 1) (.n 1))) (.n 65536)] 1 (.v 0) (.n 16777216) rfl h))
    refine ⟨_, rfl, ?_⟩
    (refine' ss_nextN ?s2 ?e2 ?r2); (case s2 => first | trivial | fail); (case e2 => (try unfold nS); first | ((with_reducible refine' Eq.trans (set_idxC ?jj2) ?jk2); (case jj2 => exact rfl); (case jk2 => dsimp only [List.set_cons_succ, List.set_cons_zero]; try exact rfl)) | ((with_reducible refine' Eq.trans (set_idx2 ?jl2 ?jm2) ?jn2); (case jl2 => exact rfl); (case jm2 => exact rfl); (case jn2 => dsimp only [List.set_cons_succ, List.set_cons_zero]; try exact rfl)) | (simp (config := { decide := true }) only [Loc.set, if_true, if_false]; exact rfl))
    refine ss_end ?_
    simp only [nS, bytesP', List.map_append, List.map_cons, List.map_nil]
theorem nFold (l : List Itm) : ∀ (a : List Bs × Slot), (l.foldl (fun a t => (a.1 ++ [t.1], Slot.val (itP t))) a).1 = a.1 ++ l.map (·.1) := by
  induction l with
  | nil => intro a; simp
  | cons t l ih => intro a; rw [List.foldl_cons, ih]; simp
theorem names_run (M : Cm C) (d : Bs) (n : Nat) (hl : d.length ≤ 16777216) : (ev C (n + 33)).cl ("names" : Str) [.bytes d] = toC ((dirP d).map fun l => .list (bytesP' (l.map (·.1)))) := by
  have hX := M.exc
  cases hd : dirP d with
  | none =>
    have hr : (ev C (n + 30)).cl ("_directory" : Str) [.bytes d] = .exc := by rw [dir_run M d n hl, hd]; rfl
    refine' cl_exc M.names (σ := [("data", .val (.bytes d)), ("result", .unb), ("item", .unb)]) (by kernel_rfl) ?b
    case b =>
      (refine' ss_nextN ?s3 ?e3 ?r3); (case s3 => first | trivial | fail); (case e3 => (try unfold nS); first | ((with_reducible refine' Eq.trans (set_idxC ?jj3) ?jk3); (case jj3 => exact rfl); (case jk3 => dsimp only [List.set_cons_succ, List.set_cons_zero]; try exact rfl)) | ((with_reducible refine' Eq.trans (set_idx2 ?jl3 ?jm3) ?jn3); (case jl3 => exact rfl); (case jm3 => exact rfl); (case jn3 => dsimp only [List.set_cons_succ, List.set_cons_zero]; try exact rfl)) | (simp (config := { decide := true }) only [Loc.set, if_true, if_false]; exact rfl))
      (refine' ss_exc (st_forX rfl (i_plainX rfl (x_callX M.dir ?y1 ?y2 ?y3 ?y4 hr)))); (case y4 => first | trivial | fail); all_goals first | exact rfl | exact Nat.le_of_ble_eq_true rfl
  | some l =>
    have hr : (ev C (n + 30)).cl ("_directory" : Str) [.bytes d] = .ok (.list (l.map itP)) := by rw [dir_run M d n hl, hd]; rfl
    refine' cl_okE M.names (σ := [("data", .val (.bytes d)), ("result", .unb), ("item", .unb)]) (by kernel_rfl) ?b ?w
    case b =>
      (refine' ss_nextN ?s4 ?e4 ?r4); (case s4 => first | trivial | fail); (case e4 => (try unfold nS); first | ((with_reducible refine' Eq.trans (set_idxC ?jj4) ?jk4); (case jj4 => exact rfl); (case jk4 => dsimp only [List.set_cons_succ, List.set_cons_zero]; try exact rfl)) | ((with_reducible refine' Eq.trans (set_idx2 ?jl4 ?jm4) ?jn4); (case jl4 => exact rfl); (case jm4 => exact rfl); (case jn4 => dsimp only [List.set_cons_succ, List.set_cons_zero]; try exact rfl)) | (simp (config := { decide := true }) only [Loc.set, if_true, if_false]; exact rfl))
      (refine' ss_next (st_for rfl (i_plain rfl (x_call M.dir ?w1 ?w2 ?w3 ?w4 hr) ?k3) ?k4) ?r2); (case w4 => first | trivial | fail); (case k3 => exact rfl); (case k4 => exact nLoop M d l (dirP_len hd)); (case w1 => exact rfl); (case w2 => exact rfl); (case w3 => exact Nat.le_of_ble_eq_true rfl)
      (refine' ss_retd ?s5); (case s5 => first | trivial | fail)
    case w =>
      rw [nFold]; rfl
noncomputable def cutE (d : Bs) (t : Itm) : Ent := (t.1, (d.take (t.2.2 + 30 + t.1.length + t.2.1)).drop (t.2.2 + 30 + t.1.length))
theorem cutE_len (d : Bs) (t : Itm) : (cutE d t).2.length ≤ t.2.1 := by
  simp only [cutE, List.length_drop, List.length_take]; (exact (Nat.le_of_not_lt fun z0 => ((Nat.le_total _ _).elim (fun y4 => ((Nat.le_total _ _).elim (fun y3 => (linF [_, _, _, _, _, _] [.s 1 (.v 0) (.v 1), .l 1 (.v 2) (.a (.a (.a (.v 3) (.n 30)) (.v 4)) (.v 0)), .q 1 (.v 5) (.v 2), .q 1 (.a (.v 1) (.a (.a (.v 3) (.n 30)) (.v 4))) (.v 5)] rfl z0 y4 (Nat.min_eq_right y4) (Nat.sub_add_cancel y3))) (fun y3 => (linF [_, _] [.s 1 (.v 0) (.v 1), .q 1 (.v 1) (.n 0)] rfl z0 (Nat.sub_eq_zero_of_le y3))))) (fun y4 => (linF [_, _, _, _, _] [.s 1 (.v 0) (.v 1), .q 1 (.v 2) (.a (.a (.a (.v 3) (.n 30)) (.v 4)) (.v 0)), .q 1 (.a (.v 1) (.a (.a (.v 3) (.n 30)) (.v 4))) (.v 2)] rfl z0 (Nat.min_eq_left y4) (Nat.sub_add_cancel (linL [_, _, _, _] [.r 1 (.v 0) (.a (.a (.a (.v 1) (.n 30)) (.v 2)) (.v 3))] 1 (.a (.a (.v 1) (.n 30)) (.v 2)) (.v 0) rfl (Nat.min_eq_left y4))))))))
theorem slice_len {d : Bs} {i k : Nat} (h : i + k ≤ d.length) : ((d.take (i + k)).drop i).length = k := by
  simp only [List.length_drop, List.length_take]; (exact (linE [_, _, _, _] [.q 1 (.v 0) (.a (.v 1) (.v 2)), .q 1 (.a (.v 3) (.v 1)) (.v 0)] 1 (.v 3) (.v 2) rfl rfl (Nat.min_eq_left (linL [_, _, _] [.l 1 (.a (.v 0) (.v 1)) (.v 2)] 1 (.a (.v 0) (.v 1)) (.v 2) rfl h)) (Nat.sub_add_cancel (linL [_, _, _] [.r 1 (.v 0) (.a (.v 1) (.v 2))] 1 (.v 1) (.v 0) rfl (Nat.min_eq_left (linL [_, _, _] [.l 1 (.a (.v 0) (.v 1)) (.v 2)] 1 (.a (.v 0) (.v 1)) (.v 2) rfl h))))))
theorem dF_good (d : Bs) : ∀ (xs : List Nat) (a a' : DS), xs.foldlM (dG d) a = some a' → ∃ l, a'.out = a.out ++ l ∧ goodFrom a.seen (l.map (cutE d)) = true ∧ (∀ t ∈ l, t.1.length ≤ d.length) ∧ a.pl + (front (l.map (cutE d))).length ≤ a'.pl ∧ ∀ x, a.i + (middle x (l.map (cutE d))).length = a'.i
  | [], a, a', h => by cases h; exact ⟨[], by simp, rfl, by simp, by simp [front], by simp [middle]⟩
  | x :: xs, a, a', h => by
    rw [List.foldlM_cons] at h
    cases hg : dG d a x with
    | none => rw [hg] at h; cases h
    | some b =>
      rw [hg] at h
      obtain ⟨l, e1, e2, e3, e4, e5⟩ := dF_good d xs b a' h
      obtain ⟨⟨c1, c2, c3, c4, c5, c6, c7, c8, c9⟩, f1, f2, f3, f4⟩ := dG_some hg
      have hn := slice_len (d := d) (i := a.i + 46) (k := g2 d (a.i + 28)) (by (exact (linL [_, _, _, _] [.l 1 (.a (.a (.v 0) (.n 46)) (.v 1)) (.v 2), .l 1 (.v 2) (.v 3)] 1 (.a (.a (.v 0) (.n 46)) (.v 1)) (.v 3) rfl c8 (Nat.sub_le _ _))))
      generalize hnm : (d.take (a.i + 46 + g2 d (a.i + 28))).drop (a.i + 46) = nm at *
      refine ⟨(nm, g4 d (a.i + 20), a.pl) :: l, ?_, ?_, ?_, ?_, ?_⟩
      · rw [e1, f3]; simp
      · rw [List.map_cons]
        have : nm.isEmpty = false := by cases nm with
          | nil => simp at hn; (exact (False.elim ((Nat.lt_or_gt_of_ne c7).elim (fun y4 => (linF [_] [.s 1 (.v 0) (.n 0)] rfl y4)) (fun y4 => (linF [_] [.r 1 (.n 0) (.v 0), .s 1 (.n 0) (.v 0)] rfl hn y4)))))
          | cons _ _ => rfl
        simp only [goodFrom, cutE, this, c9, Bool.not_false, Bool.true_and]
        rw [← f4]; exact e2
      · intro t ht
        cases ht with
        | head => show nm.length ≤ _; (exact (linL [_, _, _, _, _] [.l 1 (.a (.a (.v 0) (.n 46)) (.v 1)) (.v 2), .q 1 (.v 3) (.v 1), .l 1 (.v 2) (.v 4)] 1 (.v 3) (.v 4) rfl c8 hn (Nat.sub_le _ _)))
        | tail _ ht => exact e3 t ht
      · have := cutE_len d (nm, g4 d (a.i + 20), a.pl)
        rw [List.map_cons, front_cons, List.length_append, locB_length]
        have e : (cutE d (nm, g4 d (a.i + 20), a.pl)).1 = nm := rfl
        simp only [room, e] at this ⊢
        (exact (linL [_, _, _, _, _, _, _, _] [.l 1 (.a (.v 0) (.v 1)) (.v 2), .r 1 (.v 0) (.a (.a (.a (.v 3) (.n 30)) (.v 4)) (.v 5)), .q 1 (.v 6) (.v 4), .l 1 (.v 7) (.v 5)] 1 (.a (.v 3) (.a (.a (.a (.n 30) (.v 6)) (.v 7)) (.v 1))) (.v 2) rfl e4 f2 hn this))
      · intro x
        rw [List.map_cons]
        have e : (cutE d (nm, g4 d (a.i + 20), a.pl)).1 = nm := rfl
        have := e5 (x + room (cutE d (nm, g4 d (a.i + 20), a.pl)))
        simp only [middle, List.length_append, cenH_length, e]
        (exact (linE [_, _, _, _, _, _] [.r 1 (.v 0) (.a (.a (.v 1) (.n 46)) (.v 2)), .q 1 (.v 3) (.v 2), .q 1 (.a (.v 0) (.v 4)) (.v 5)] 1 (.a (.v 1) (.a (.a (.n 46) (.v 3)) (.v 4))) (.v 5) rfl rfl f1 hn this))
theorem dir_good {d : Bs} {l : List Itm} (h : dirP d = some l) : good (l.map (cutE d)) = true ∧ (∀ t ∈ l, t.1.length ≤ d.length) ∧ (arc (l.map (cutE d))).length ≤ d.length := by
  obtain ⟨k1, _, _, _, _, _, k2, a, ha, k3, k4, rfl⟩ := dirP_some h
  obtain ⟨l, e1, e2, e3, e4, e5⟩ := dF_good d _ _ _ ha
  have e1 : a.out = l := by simpa using e1
  have := e5 0
  rw [e1]
  refine ⟨e2, e3, ?_⟩
  simp only [arc, List.length_append, endB_length] at *
  (exact (linL [_, _, _, _, _, _, _] [.q 1 (.v 0) (.v 1), .q 1 (.v 2) (.v 3), .l 1 (.a (.n 0) (.v 4)) (.v 0), .q 1 (.a (.v 1) (.v 5)) (.v 2), .q 1 (.a (.v 3) (.n 22)) (.v 6)] 1 (.a (.a (.v 4) (.v 5)) (.n 22)) (.v 6) rfl k3 k4 e4 this (Nat.sub_add_cancel (linL [_] [.l 1 (.n 22) (.v 0)] 1 (.n 22) (.v 0) rfl k1))))
abbrev RS := List Ent × Slot × Slot × Slot × Slot × Slot
noncomputable def rS (d : Bs) (a : RS) : Loc := [("data", .val (.bytes d)), ("out", .own (a.1.map entP)), ("item", a.2.1), ("name", a.2.2.1), ("s", a.2.2.2.1), ("a", a.2.2.2.2.1), ("start", a.2.2.2.2.2)]
noncomputable def rg (d : Bs) (a : RS) (t : Itm) : RS := (a.1 ++ [cutE d t], .val (itP t), .val (.bytes t.1), .val (.int (t.2.1 : Nat)), .val (.int (t.2.2 : Nat)), .val (.int ((t.2.2 + 30 + t.1.length : Nat) : Int)))
theorem rLoop (M : Cm C) (d : Bs) (hl : d.length ≤ 16777216) (l : List Itm) (hn : l.length < 65536) (hs : ∀ t ∈ l, t.1.length ≤ d.length) {n : Nat} : forL (forT (fnOf 14).body 1) ((ev C (n + 28)).ss (fnOf 14).scope (forB (fnOf 14).body 1)) (l.map itP) (rS d ([], .unb, .unb, .unb, .unb, .unb)) = .ok (.next, rS d (l.foldl (rg d) ([], .unb, .unb, .unb, .unb, .unb))) := by
  refine for_foldI (rS d) (rg d) itP (fun bs a => a.1.length + bs.length < 65536 ∧ ∀ t ∈ bs, t.1.length ≤ d.length) ?_ l _ ⟨by simpa using hn, hs⟩ ?_
  · rintro b bs a ⟨h, h'⟩; refine ⟨?_, fun t ht => h' t (.tail _ ht)⟩; simp [rg] at h ⊢; (exact (linS [_, _] [.s 1 (.a (.v 0) (.a (.v 1) (.n 1))) (.n 65536)] 1 (.a (.a (.v 0) (.n 1)) (.v 1)) (.n 65536) rfl h))
  · rintro t bs a ⟨h, h'⟩
    have i0 := it_0 t
    have i1 := it_1 t
    have i2 := it_2 t
    have h0 := h' t (.head _)
    have p1 : (a.1.map entP).length < 16777216 := by rw [List.length_map]; simp at h; (exact (linS [_, _] [.s 1 (.a (.v 0) (.a (.v 1) (.n 1))) (.n 65536)] 1 (.v 0) (.n 16777216) rfl h))
    refine ⟨_, rfl, ?_⟩
    (refine' ss_nextN ?s6 ?e6 ?r6); (case s6 => first | trivial | fail); (case e6 => (try unfold rS); first | ((with_reducible refine' Eq.trans (set_idxC ?jj6) ?jk6); (case jj6 => exact rfl); (case jk6 => dsimp only [List.set_cons_succ, List.set_cons_zero]; try exact rfl)) | ((with_reducible refine' Eq.trans (set_idx2 ?jl6 ?jm6) ?jn6); (case jl6 => exact rfl); (case jm6 => exact rfl); (case jn6 => dsimp only [List.set_cons_succ, List.set_cons_zero]; try exact rfl)) | (simp (config := { decide := true }) only [Loc.set, if_true, if_false]; exact rfl))
    (refine' ss_nextN ?s7 ?e7 ?r7); (case s7 => first | trivial | fail); (case e7 => (try unfold rS); first | ((with_reducible refine' Eq.trans (set_idxC ?jj7) ?jk7); (case jj7 => exact rfl); (case jk7 => dsimp only [List.set_cons_succ, List.set_cons_zero]; try exact rfl)) | ((with_reducible refine' Eq.trans (set_idx2 ?jl7 ?jm7) ?jn7); (case jl7 => exact rfl); (case jm7 => exact rfl); (case jn7 => dsimp only [List.set_cons_succ, List.set_cons_zero]; try exact rfl)) | (simp (config := { decide := true }) only [Loc.set, if_true, if_false]; exact rfl))
    (refine' ss_nextN ?s8 ?e8 ?r8); (case s8 => first | trivial | fail); (case e8 => (try unfold rS); first | ((with_reducible refine' Eq.trans (set_idxC ?jj8) ?jk8); (case jj8 => exact rfl); (case jk8 => dsimp only [List.set_cons_succ, List.set_cons_zero]; try exact rfl)) | ((with_reducible refine' Eq.trans (set_idx2 ?jl8 ?jm8) ?jn8); (case jl8 => exact rfl); (case jm8 => exact rfl); (case jn8 => dsimp only [List.set_cons_succ, List.set_cons_zero]; try exact rfl)) | (simp (config := { decide := true }) only [Loc.set, if_true, if_false]; exact rfl))
    (refine' ss_nextN ?s9 ?e9 ?r9); (case s9 => first | trivial | fail); (case e9 => (try unfold rS); first | ((with_reducible refine' Eq.trans (set_idxC ?jj9) ?jk9); (case jj9 => exact rfl); (case jk9 => dsimp only [List.set_cons_succ, List.set_cons_zero]; try exact rfl)) | ((with_reducible refine' Eq.trans (set_idx2 ?jl9 ?jm9) ?jn9); (case jl9 => exact rfl); (case jm9 => exact rfl); (case jn9 => dsimp only [List.set_cons_succ, List.set_cons_zero]; try exact rfl)) | (simp (config := { decide := true }) only [Loc.set, if_true, if_false]; exact rfl))
    (refine' ss_nextN ?s10 ?e10 ?r10); (case s10 => first | trivial | fail); (case e10 => (try unfold rS); first | ((with_reducible refine' Eq.trans (set_idxC ?jj10) ?jk10); (case jj10 => exact rfl); (case jk10 => dsimp only [List.set_cons_succ, List.set_cons_zero]; try exact rfl)) | ((with_reducible refine' Eq.trans (set_idx2 ?jl10 ?jm10) ?jn10); (case jl10 => exact rfl); (case jm10 => exact rfl); (case jn10 => dsimp only [List.set_cons_succ, List.set_cons_zero]; try exact rfl)) | (simp (config := { decide := true }) only [Loc.set, if_true, if_false]; exact rfl))
    refine ss_end ?_
    simp only [rS, rg, List.map_append, List.map_cons, List.map_nil, entP, cutE]
theorem rFold (d : Bs) (l : List Itm) : ∀ (a : RS), (l.foldl (rg d) a).1 = a.1 ++ l.map (cutE d) := by
  induction l with
  | nil => intro a; simp
  | cons t l ih => intro a; rw [List.foldl_cons, ih]; simp [rg]
noncomputable def readP (d : Bs) : Option (List Ent) := (dirP d).bind fun l => if arc (l.map (cutE d)) ≠ d then none else some (l.map (cutE d))
theorem res_guardM {n : Nat} {sc : Scope} {σ σ₁ : Loc} {rest bd : List Stmt} {t : Expr} {p : Pos} {o : Option PV} {z : Bool} (h1 : (ev C n).tr sc t σ = .ok (z, σ₁)) (h2 : (ev C n).ss sc bd σ₁ = .exc) (h0 : (ev C n).ss sc [] σ₁ = .ok (.next, σ₁)) (h3 : z = false → Res ((ev C (n + 1)).ss sc rest σ₁) o) :
    Res ((ev C (n + 1)).ss sc (.If t bd [] p :: rest) σ) (if z = true then none else o) := by
  cases z with
  | true => exact ss_exc (st_ifT h1 rfl h2)
  | false =>
    have h := ss_next (rest := rest) (st_ifF (p := p) (bd := bd) h1 rfl h0) rfl
    rw [h]; exact h3 rfl
theorem read_run (M : Cm C) (d : Bs) (n : Nat) (hl : d.length ≤ 16000000) : (ev C (n + 64)).cl ("read_archive" : Str) [.bytes d] = toC ((readP d).map fun l => .list (l.map entP)) := by
  have hX := M.exc
  unfold readP
  cases hd : dirP d with
  | none =>
    have hr : (ev C (n + 61)).cl ("_directory" : Str) [.bytes d] = .exc := by rw [dir_run M d (n + 31) (by (exact (linL [_] [.l 1 (.v 0) (.n 16000000)] 1 (.v 0) (.n 16777216) rfl hl))), hd]; rfl
    refine' cl_exc M.read (σ := [("data", .val (.bytes d)), ("out", .unb), ("item", .unb), ("name", .unb), ("s", .unb), ("a", .unb), ("start", .unb)]) (by kernel_rfl) ?b
    case b =>
      (refine' ss_nextN ?s11 ?e11 ?r11); (case s11 => first | trivial | fail); (case e11 => (try unfold rS); first | ((with_reducible refine' Eq.trans (set_idxC ?jj11) ?jk11); (case jj11 => exact rfl); (case jk11 => dsimp only [List.set_cons_succ, List.set_cons_zero]; try exact rfl)) | ((with_reducible refine' Eq.trans (set_idx2 ?jl11 ?jm11) ?jn11); (case jl11 => exact rfl); (case jm11 => exact rfl); (case jn11 => dsimp only [List.set_cons_succ, List.set_cons_zero]; try exact rfl)) | (simp (config := { decide := true }) only [Loc.set, if_true, if_false]; exact rfl))
      (refine' ss_exc (st_forX rfl (i_plainX rfl (x_callX M.dir ?y1 ?y2 ?y3 ?y4 hr)))); (case y4 => first | trivial | fail); all_goals first | exact rfl | exact Nat.le_of_ble_eq_true rfl
  | some l =>
    have hr : (ev C (n + 61)).cl ("_directory" : Str) [.bytes d] = .ok (.list (l.map itP)) := by rw [dir_run M d (n + 31) (by (exact (linL [_] [.l 1 (.v 0) (.n 16000000)] 1 (.v 0) (.n 16777216) rfl hl))), hd]; rfl
    obtain ⟨k1, k2, k3⟩ := dir_good hd
    have hw := write_good M (l.map (cutE d)) n k1 (by (exact (linL [_, _] [.l 1 (.v 0) (.n 16000000), .l 1 (.v 1) (.v 0)] 1 (.v 1) (.n 16000000) rfl hl k3)))
    have hL := rLoop (n := n + 34) M d (by (exact (linL [_] [.l 1 (.v 0) (.n 16000000)] 1 (.v 0) (.n 16777216) rfl hl))) l (dirP_len hd) k2
    have hF := rFold d l ([], .unb, .unb, .unb, .unb, .unb)
    generalize l.foldl (rg d) ([], .unb, .unb, .unb, .unb, .unb) = a at hL hF
    obtain ⟨es, q1, q2, q3, q4, q5⟩ := a
    simp only [List.nil_append] at hF
    subst hF
    refine' cl_res (o := if decide (arc (l.map (cutE d)) ≠ d) = true then none else some (.list ((l.map (cutE d)).map entP))) M.read (σ := [("data", .val (.bytes d)), ("out", .unb), ("item", .unb), ("name", .unb), ("s", .unb), ("a", .unb), ("start", .unb)]) (by kernel_rfl) ?c ?w
    case c =>
      (refine' res_step ?s12 ?e12 ?r12); (case s12 => first | trivial | fail); (case e12 => (try unfold rS); first | ((with_reducible refine' Eq.trans (set_idxC ?jj12) ?jk12); (case jj12 => exact rfl); (case jk12 => dsimp only [List.set_cons_succ, List.set_cons_zero]; try exact rfl)) | ((with_reducible refine' Eq.trans (set_idx2 ?jl12 ?jm12) ?jn12); (case jl12 => exact rfl); (case jm12 => exact rfl); (case jn12 => dsimp only [List.set_cons_succ, List.set_cons_zero]; try exact rfl)) | (simp (config := { decide := true }) only [Loc.set, if_true, if_false]; exact rfl))
      (refine' res_step (st_for rfl (i_plain rfl (x_call M.dir ?w1 ?w2 ?w3 ?w4 hr) ?k3) ?k4) ?k5 ?r2); (case w4 => first | trivial | fail); (case k3 => exact rfl); (case k4 => exact hL); (case w1 => exact rfl); (case w2 => exact rfl); (case w3 => exact Nat.le_of_ble_eq_true rfl); (case k5 => exact rfl)
      have hwr := M.write
      (refine' res_guardM ?v1 ?v2 ?v3 ?v4); (case v1 => first | trivial | fail); (case v2 => exact ss_exc (st_raise hX rfl rfl)); (case v3 => exact ss_nil)
      intro hz
      (refine' res_ret ?s13); (case s13 => first | trivial | fail)
    case w =>
      simp only [Option.bind_some, decide_eq_true_eq]
      split <;> rfl
end
theorem drop1 {d : Bs} {i : Nat} (h : i + 1 ≤ d.length) : d.drop i = d.getD i 0 :: d.drop (i + 1) := by
  rw [List.drop_eq_getElem_cons (show i < d.length from h)]
  simp [List.getD, List.getElem?_eq_getElem (show i < d.length from h)]
theorem dropS {d : Bs} (i k : Nat) : d.drop i = (d.take (i + k)).drop i ++ d.drop (i + k) := by
  have h : (d.take (i + k)).drop i = (d.drop i).take k := by rw [List.drop_take]; congr 1; (exact (linE [_, _, _] [.q 1 (.a (.v 0) (.v 1)) (.a (.v 1) (.v 2))] 1 (.v 0) (.v 2) rfl rfl (Nat.sub_add_cancel (linL [_, _] [] 1 (.v 0) (.a (.v 0) (.v 1)) rfl))))
  rw [h, ← List.drop_drop, List.take_append_drop]
theorem dv {x y : Nat} (hx : x < 256) : (x + 256 * y) / 256 = y := by rw [Nat.add_mul_div_left _ _ (by decide), Nat.div_eq_of_lt hx, Nat.zero_add]
theorem dm {x y : Nat} (hx : x < 256) : (x + 256 * y) % 256 = x := by rw [Nat.add_mul_mod_self_left, Nat.mod_eq_of_lt hx]
theorem four_sum (x y z w : Nat) : x + 256 * y + 65536 * z + 16777216 * w = x + 256 * (y + 256 * (z + 256 * w)) := linE [_, _, _, _] [] 1 (.a (.a (.a (.v 0) (.m 256 (.v 1))) (.m 65536 (.v 2))) (.m 16777216 (.v 3))) (.a (.v 0) (.m 256 (.a (.v 1) (.m 256 (.a (.v 2) (.m 256 (.v 3))))))) rfl rfl
theorem dv2 (n : Nat) : n / 65536 = n / 256 / 256 := by rw [Nat.div_div_eq_div_mul]
theorem dv3 (n : Nat) : n / 16777216 = n / 256 / 256 / 256 := by rw [Nat.div_div_eq_div_mul, Nat.div_div_eq_div_mul]
theorem le2_of (x y : UInt8) : le2 (x.toNat + 256 * y.toNat) = [x, y] := by
  have := x.toNat_lt
  have := y.toNat_lt
  unfold le2
  congr 1
  · refine UInt8.toNat_inj.mp ?_; simp
  · congr 1; refine UInt8.toNat_inj.mp ?_; simp; rw [dv x.toNat_lt, Nat.mod_eq_of_lt y.toNat_lt]
theorem le4_of (x y z w : UInt8) : le4 (x.toNat + 256 * y.toNat + 65536 * z.toNat + 16777216 * w.toNat) = [x, y, z, w] := by
  have := x.toNat_lt
  have := y.toNat_lt
  have := z.toNat_lt
  have := w.toNat_lt
  unfold le4
  congr 1
  · refine UInt8.toNat_inj.mp ?_; simp
  · congr 1
    · refine UInt8.toNat_inj.mp ?_; simp; rw [four_sum, dv x.toNat_lt, dm y.toNat_lt]
    · congr 1
      · refine UInt8.toNat_inj.mp ?_; simp; rw [four_sum, dv2, dv x.toNat_lt, dv y.toNat_lt, dm z.toNat_lt]
      · congr 1; refine UInt8.toNat_inj.mp ?_; simp; rw [four_sum, dv3, dv x.toNat_lt, dv y.toNat_lt, dv z.toNat_lt, Nat.mod_eq_of_lt w.toNat_lt]
theorem drop2 {d : Bs} {i : Nat} (h : i + 2 ≤ d.length) : d.drop i = le2 (g2 d i) ++ d.drop (i + 2) := by
  rw [drop1 (by (exact (linL [_, _] [.l 1 (.a (.v 0) (.n 2)) (.v 1)] 1 (.a (.v 0) (.n 1)) (.v 1) rfl h))), drop1 (i := i + 1) (by (exact (linL [_, _] [.l 1 (.a (.v 0) (.n 2)) (.v 1)] 1 (.a (.a (.v 0) (.n 1)) (.n 1)) (.v 1) rfl h))), g2_eq, le2_of]; rfl
theorem drop4 {d : Bs} {i : Nat} (h : i + 4 ≤ d.length) : d.drop i = le4 (g4 d i) ++ d.drop (i + 4) := by
  rw [drop1 (by (exact (linL [_, _] [.l 1 (.a (.v 0) (.n 4)) (.v 1)] 1 (.a (.v 0) (.n 1)) (.v 1) rfl h))), drop1 (i := i + 1) (by (exact (linL [_, _] [.l 1 (.a (.v 0) (.n 4)) (.v 1)] 1 (.a (.a (.v 0) (.n 1)) (.n 1)) (.v 1) rfl h))), drop1 (i := i + 1 + 1) (by (exact (linL [_, _] [.l 1 (.a (.v 0) (.n 4)) (.v 1)] 1 (.a (.a (.a (.v 0) (.n 1)) (.n 1)) (.n 1)) (.v 1) rfl h))), drop1 (i := i + 1 + 1 + 1) (by (exact (linL [_, _] [.l 1 (.a (.v 0) (.n 4)) (.v 1)] 1 (.a (.a (.a (.a (.v 0) (.n 1)) (.n 1)) (.n 1)) (.n 1)) (.v 1) rfl h))), g4_eq, le4_of]; rfl
theorem g2_drop (d : Bs) (i o : Nat) : g2 d (i + o) = g2 (d.drop i) o := by
  simp [g2, List.getD, List.getElem?_drop, Nat.add_assoc]
theorem g4_drop (d : Bs) (i o : Nat) : g4 d (i + o) = g4 (d.drop i) o := by
  simp [g4, List.getD, List.getElem?_drop, Nat.add_assoc]
theorem cut_drop (d : Bs) (i o j : Nat) : (d.take (i + j)).drop (i + o) = ((d.drop i).take j).drop o := by
  rw [← List.drop_drop, List.drop_take]
  congr 2; (exact (linE [_, _, _] [.q 1 (.a (.v 0) (.v 1)) (.a (.v 1) (.v 2))] 1 (.v 0) (.v 2) rfl rfl (Nat.sub_add_cancel (linL [_, _] [] 1 (.v 0) (.a (.v 0) (.v 1)) rfl))))
theorem g2_le2 {n : Nat} (h : n < 65536) (r : Bs) : g2 (le2 n ++ r) 0 = n := by
  rw [g2_eq]
  simp [le2, List.getD]; (exact (linE [_, _, _, _] [.q 1 (.a (.m 256 (.v 0)) (.v 1)) (.v 2), .q 256 (.v 3) (.v 0)] 1 (.a (.v 1) (.m 256 (.v 3))) (.v 2) rfl rfl (Nat.div_add_mod _ _) (Nat.mod_eq_of_lt (linS [_, _, _] [.s 1 (.v 0) (.n 65536), .q 1 (.a (.m 256 (.v 1)) (.v 2)) (.v 0)] 256 (.v 1) (.n 256) rfl h (Nat.div_add_mod _ _)))))
theorem g4_le4 {n : Nat} (h : n < 4294967296) (r : Bs) : g4 (le4 n ++ r) 0 = n := by
  rw [g4_eq]
  simp [le4, List.getD]
  rw [dv2, dv3]
  have h1 := Nat.div_add_mod n 256
  have h2 := Nat.div_add_mod (n / 256) 256
  have h3 := Nat.div_add_mod (n / 256 / 256) 256
  have h4 : n / 256 / 256 / 256 < 256 := by rw [← dv3]; exact Nat.div_lt_of_lt_mul h
  rw [Nat.mod_eq_of_lt h4]
  exact linE [_, _, _, _, _, _, _] [.q 1 (.a (.m 256 (.v 5)) (.v 0)) (.v 4), .q 256 (.a (.m 256 (.v 6)) (.v 1)) (.v 5), .q 65536 (.a (.m 256 (.v 3)) (.v 2)) (.v 6)] 1 (.a (.a (.a (.v 0) (.m 256 (.v 1))) (.m 65536 (.v 2))) (.m 16777216 (.v 3))) (.v 4) rfl rfl h1 h2 h3
theorem le2_inj {a b : Nat} (ha : a < 65536) (hb : b < 65536) (h : le2 a = le2 b) : a = b := by
  rw [← g2_le2 ha [], h, g2_le2 hb]
theorem le4_inj {a b : Nat} (ha : a < 4294967296) (hb : b < 4294967296) (h : le4 a = le4 b) : a = b := by
  rw [← g4_le4 ha [], h, g4_le4 hb]
abbrev Row := Bs × Bs × Nat
noncomputable def rowH (pl : Nat) (r : Row) : Bs := fixB ++ fieldB ++ r.2.1 ++ le4 r.2.2 ++ le4 r.2.2 ++ le2 r.1.length ++ zeroB ++ le4 pl
noncomputable def rowB (pl : Nat) (r : Row) : Bs := rowH pl r ++ r.1
noncomputable def rroom (r : Row) : Nat := 30 + r.1.length + r.2.2
noncomputable def rowsB : Nat → List Row → Bs
  | _, [] => []
  | pl, r :: rs => rowB pl r ++ rowsB (pl + rroom r) rs
noncomputable def tot (rs : List Row) : Nat := (rs.map rroom).sum
noncomputable def items : Nat → List Row → List Itm
  | _, [] => []
  | pl, r :: rs => (r.1, r.2.2, pl) :: items (pl + rroom r) rs
noncomputable def RowOk (r : Row) : Prop := r.1 ≠ [] ∧ r.1.length < 65536 ∧ r.2.1.length = 4 ∧ r.2.2 < 4294967296
theorem rowH_len {pl : Nat} {r : Row} (h : r.2.1.length = 4) : (rowH pl r).length = 46 := by
  simp [rowH, fixB, fieldB, zeroB, le4, le2, h]
theorem dG_row {d : Bs} {a a' : DS} {k : Nat} (h : dG d a k = some a') :
    ∃ r : Row, RowOk r ∧ d.drop a.i = rowB a.pl r ++ d.drop a'.i ∧ a'.i = a.i + 46 + r.1.length ∧ a'.pl = a.pl + rroom r ∧ a'.out = a.out ++ [(r.1, r.2.2, a.pl)] ∧ a'.seen = a.seen ++ [r.1] ∧ r.1 ∉ a.seen ∧ a'.i + 22 ≤ d.length := by
  obtain ⟨⟨c1, c2, c3, c4, c5, c6, c7, c8, c9⟩, f1, f2, f3, f4⟩ := dG_some h
  have hL := g2_lt d (a.i + 28)
  have hn := slice_len (d := d) (i := a.i + 46) (k := g2 d (a.i + 28)) (by (exact (linL [_, _, _, _] [.l 1 (.a (.a (.v 0) (.n 46)) (.v 1)) (.v 2), .q 1 (.a (.v 2) (.n 22)) (.v 3)] 1 (.a (.a (.v 0) (.n 46)) (.v 1)) (.v 3) rfl c8 (Nat.sub_add_cancel (linL [_, _] [.l 1 (.a (.v 0) (.n 46)) (.v 1)] 1 (.n 22) (.v 1) rfl c1)))))
  have hc := slice_len (d := d) (i := a.i + 16) (k := 4) (by (exact (linL [_, _] [.l 1 (.a (.v 0) (.n 46)) (.v 1)] 1 (.a (.a (.v 0) (.n 16)) (.n 4)) (.v 1) rfl c1)))
  have s0 : d.drop a.i = (d.take (a.i + 8)).drop a.i ++ d.drop (a.i + 8) := dropS a.i 8
  have s1 : d.drop (a.i + 8) = (d.take (a.i + 16)).drop (a.i + 8) ++ d.drop (a.i + 16) := dropS (a.i + 8) 8
  have s2 : d.drop (a.i + 16) = (d.take (a.i + 20)).drop (a.i + 16) ++ d.drop (a.i + 20) := dropS (a.i + 16) 4
  have s3 : d.drop (a.i + 20) = le4 (g4 d (a.i + 20)) ++ d.drop (a.i + 24) := drop4 (by (exact (linL [_, _] [.l 1 (.a (.v 0) (.n 46)) (.v 1)] 1 (.a (.a (.v 0) (.n 20)) (.n 4)) (.v 1) rfl c1)))
  have s4 : d.drop (a.i + 24) = le4 (g4 d (a.i + 24)) ++ d.drop (a.i + 28) := drop4 (by (exact (linL [_, _] [.l 1 (.a (.v 0) (.n 46)) (.v 1)] 1 (.a (.a (.v 0) (.n 24)) (.n 4)) (.v 1) rfl c1)))
  have s5 : d.drop (a.i + 28) = le2 (g2 d (a.i + 28)) ++ d.drop (a.i + 30) := drop2 (by (exact (linL [_, _] [.l 1 (.a (.v 0) (.n 46)) (.v 1)] 1 (.a (.a (.v 0) (.n 28)) (.n 2)) (.v 1) rfl c1)))
  have s6 : d.drop (a.i + 30) = (d.take (a.i + 42)).drop (a.i + 30) ++ d.drop (a.i + 42) := dropS (a.i + 30) 12
  have s7 : d.drop (a.i + 42) = le4 (g4 d (a.i + 42)) ++ d.drop (a.i + 46) := drop4 (by (exact (linL [_, _] [.l 1 (.a (.v 0) (.n 46)) (.v 1)] 1 (.a (.a (.v 0) (.n 42)) (.n 4)) (.v 1) rfl c1)))
  have s8 := dropS (d := d) (a.i + 46) (g2 d (a.i + 28))
  have e34 : le4 (g4 d (a.i + 20)) = le4 (g4 d (a.i + 24)) := by
    have t3 := dropS (d := d) (a.i + 20) 4
    have t4 := dropS (d := d) (a.i + 24) 4
    rw [s3] at t3
    rw [s4] at t4
    have t3 := List.append_inj_left t3 (by rw [slice_len (by (exact (linL [_, _] [.l 1 (.a (.v 0) (.n 46)) (.v 1)] 1 (.a (.a (.v 0) (.n 20)) (.n 4)) (.v 1) rfl c1)))]; rfl)
    have t4 := List.append_inj_left t4 (by rw [slice_len (by (exact (linL [_, _] [.l 1 (.a (.v 0) (.n 46)) (.v 1)] 1 (.a (.a (.v 0) (.n 24)) (.n 4)) (.v 1) rfl c1)))]; rfl)
    rw [t3, t4]; exact c4
  refine ⟨((d.take (a.i + 46 + g2 d (a.i + 28))).drop (a.i + 46), (d.take (a.i + 20)).drop (a.i + 16), g4 d (a.i + 20)), ⟨?_, ?_, hc, g4_lt _ _⟩, ?_, ?_, ?_, f3, f4, ?_, ?_⟩
  · intro q; exact c7 (hn.symm.trans (congrArg List.length q))
  · show List.length _ < _; rw [hn]; exact hL
  · rw [f1]
    simp only [rowB, rowH]
    rw [hn, s0, c2, s1, c3, s2, s3, s4, ← e34, s5, s6, c5, s7, c6, s8]
    simp only [List.append_assoc]
  · rw [f1, hn]
  · rw [f2]; simp only [rroom, hn]; (exact (linE [_, _, _] [] 1 (.a (.a (.a (.v 0) (.n 30)) (.v 1)) (.v 2)) (.a (.v 0) (.a (.a (.n 30) (.v 1)) (.v 2))) rfl rfl))
  · simpa using c9
  · rw [f1]; (exact (Nat.le_of_not_lt fun z0 => ((Nat.le_total _ _).elim (fun y4 => (linF [_, _, _, _] [.l 1 (.a (.a (.v 0) (.n 46)) (.v 1)) (.v 2), .s 1 (.v 3) (.a (.a (.a (.v 0) (.n 46)) (.v 1)) (.n 22)), .q 1 (.a (.v 2) (.n 22)) (.v 3)] rfl c8 z0 (Nat.sub_add_cancel y4))) (fun y4 => (linF [_, _, _] [.l 1 (.a (.a (.v 0) (.n 46)) (.v 1)) (.v 2), .q 1 (.v 2) (.n 0)] rfl c8 (Nat.sub_eq_zero_of_le y4))))))
theorem dG_of {d : Bs} {a : DS} {k : Nat} {r : Row} {rest : Bs} (hr : RowOk r) (h : d.drop a.i = rowB a.pl r ++ rest) (h22 : 22 ≤ rest.length) (hp : a.pl < 4294967296) (hs : r.1 ∉ a.seen) :
    ∃ a', dG d a k = some a' ∧ d.drop a'.i = rest ∧ a'.i = a.i + 46 + r.1.length ∧ a'.pl = a.pl + rroom r ∧ a'.out = a.out ++ [(r.1, r.2.2, a.pl)] ∧ a'.seen = a.seen ++ [r.1] := by
  obtain ⟨nm, cr, s⟩ := r
  obtain ⟨h1, h2, h3, h4⟩ := hr
  simp only at h1 h2 h3 h4 hs
  match cr, h3, h with
  | [b0, b1, b2, b3], _, h =>
  have hlen : d.length = a.i + (46 + nm.length + rest.length) := by
    have := congrArg List.length h
    simp [rowB, rowH, fixB, fieldB, zeroB, le4, le2] at this
    (exact (Nat.le_antisymm (Nat.le_of_not_lt fun z0 => (linF [_, _, _, _, _] [.q 1 (.v 0) (.a (.a (.a (.a (.a (.a (.a (.a (.a (.a (.a (.a (.a (.a (.a (.a (.a (.a (.a (.a (.a (.a (.a (.a (.a (.a (.a (.a (.a (.a (.a (.a (.a (.a (.a (.a (.a (.a (.a (.a (.a (.a (.a (.a (.a (.a (.a (.v 1) (.v 2)) (.n 1)) (.n 1)) (.n 1)) (.n 1)) (.n 1)) (.n 1)) (.n 1)) (.n 1)) (.n 1)) (.n 1)) (.n 1)) (.n 1)) (.n 1)) (.n 1)) (.n 1)) (.n 1)) (.n 1)) (.n 1)) (.n 1)) (.n 1)) (.n 1)) (.n 1)) (.n 1)) (.n 1)) (.n 1)) (.n 1)) (.n 1)) (.n 1)) (.n 1)) (.n 1)) (.n 1)) (.n 1)) (.n 1)) (.n 1)) (.n 1)) (.n 1)) (.n 1)) (.n 1)) (.n 1)) (.n 1)) (.n 1)) (.n 1)) (.n 1)) (.n 1)) (.n 1)) (.n 1)), .s 1 (.a (.v 3) (.a (.a (.n 46) (.v 1)) (.v 2))) (.v 4), .r 1 (.a (.v 0) (.v 3)) (.v 4)] rfl this z0 (Nat.sub_add_cancel (linL [_, _, _, _] [.s 1 (.a (.v 0) (.a (.a (.n 46) (.v 1)) (.v 2))) (.v 3)] 1 (.v 0) (.v 3) rfl z0)))) (Nat.le_of_not_lt fun z0 => ((Nat.le_total _ _).elim (fun y4 => (linF [_, _, _, _, _] [.r 1 (.v 0) (.a (.a (.a (.a (.a (.a (.a (.a (.a (.a (.a (.a (.a (.a (.a (.a (.a (.a (.a (.a (.a (.a (.a (.a (.a (.a (.a (.a (.a (.a (.a (.a (.a (.a (.a (.a (.a (.a (.a (.a (.a (.a (.a (.a (.a (.a (.a (.v 1) (.v 2)) (.n 1)) (.n 1)) (.n 1)) (.n 1)) (.n 1)) (.n 1)) (.n 1)) (.n 1)) (.n 1)) (.n 1)) (.n 1)) (.n 1)) (.n 1)) (.n 1)) (.n 1)) (.n 1)) (.n 1)) (.n 1)) (.n 1)) (.n 1)) (.n 1)) (.n 1)) (.n 1)) (.n 1)) (.n 1)) (.n 1)) (.n 1)) (.n 1)) (.n 1)) (.n 1)) (.n 1)) (.n 1)) (.n 1)) (.n 1)) (.n 1)) (.n 1)) (.n 1)) (.n 1)) (.n 1)) (.n 1)) (.n 1)) (.n 1)) (.n 1)) (.n 1)) (.n 1)) (.n 1)), .s 1 (.v 3) (.a (.v 4) (.a (.a (.n 46) (.v 1)) (.v 2))), .q 1 (.a (.v 0) (.v 4)) (.v 3)] rfl this z0 (Nat.sub_add_cancel y4))) (fun y4 => (linF [_, _, _] [.r 1 (.v 0) (.a (.a (.a (.a (.a (.a (.a (.a (.a (.a (.a (.a (.a (.a (.a (.a (.a (.a (.a (.a (.a (.a (.a (.a (.a (.a (.a (.a (.a (.a (.a (.a (.a (.a (.a (.a (.a (.a (.a (.a (.a (.a (.a (.a (.a (.a (.a (.v 1) (.v 2)) (.n 1)) (.n 1)) (.n 1)) (.n 1)) (.n 1)) (.n 1)) (.n 1)) (.n 1)) (.n 1)) (.n 1)) (.n 1)) (.n 1)) (.n 1)) (.n 1)) (.n 1)) (.n 1)) (.n 1)) (.n 1)) (.n 1)) (.n 1)) (.n 1)) (.n 1)) (.n 1)) (.n 1)) (.n 1)) (.n 1)) (.n 1)) (.n 1)) (.n 1)) (.n 1)) (.n 1)) (.n 1)) (.n 1)) (.n 1)) (.n 1)) (.n 1)) (.n 1)) (.n 1)) (.n 1)) (.n 1)) (.n 1)) (.n 1)) (.n 1)) (.n 1)) (.n 1)) (.n 1)), .q 1 (.v 0) (.n 0)] rfl this (Nat.sub_eq_zero_of_le y4)))))))
  have e1 : (d.take (a.i + 8)).drop a.i = fixB := by
    rw [show (d.take (a.i + 8)).drop a.i = ((d.drop a.i).take 8).drop 0 from cut_drop d a.i 0 8, h]; rfl
  have e2 : (d.take (a.i + 16)).drop (a.i + 8) = fieldB := by rw [cut_drop, h]; rfl
  have e3 : (d.take (a.i + 24)).drop (a.i + 20) = (d.take (a.i + 28)).drop (a.i + 24) := by rw [cut_drop, cut_drop, h]; rfl
  have e4 : (d.take (a.i + 42)).drop (a.i + 30) = zeroB := by rw [cut_drop, h]; rfl
  have e5 : g4 d (a.i + 42) = a.pl := by
    rw [g4_drop, h]
    exact g4_le4 hp []
  have e6 : g2 d (a.i + 28) = nm.length := by
    rw [g2_drop, h]
    exact g2_le2 h2 []
  have e7 : g4 d (a.i + 20) = s := by
    rw [g4_drop, h]
    exact g4_le4 h4 []
  have e8 : (d.take (a.i + 46 + nm.length)).drop (a.i + 46) = nm := by
    rw [Nat.add_assoc, cut_drop, h]
    show ((rowB a.pl (nm, [b0, b1, b2, b3], s) ++ rest).take (46 + nm.length)).drop 46 = nm
    have : rowB a.pl (nm, [b0, b1, b2, b3], s) ++ rest = rowH a.pl (nm, [b0, b1, b2, b3], s) ++ (nm ++ rest) := by simp [rowB]
    rw [this, List.drop_take, show (46 : Nat) = (rowH a.pl (nm, [b0, b1, b2, b3], s)).length from rfl, List.drop_left]
    simp
  have hn : nm.length ≠ 0 := fun q => h1 (List.eq_nil_of_length_eq_zero q)
  refine ⟨⟨a.i + 46 + nm.length, a.pl + 30 + nm.length + s, a.out ++ [(nm, s, a.pl)], a.seen ++ [nm], .val (.int (k : Nat)), .val (.int (nm.length : Nat)), .val (.int (s : Nat)), .val (.bytes nm), .val (.bytes nm)⟩, ?_, ?_, rfl, ?_, rfl, rfl⟩
  · unfold dG
    rw [e6, e7, e8, e5, e1, e2, e3, e4]
    rw [if_neg (by simp; (exact (linL [_, _, _, _] [.r 1 (.v 0) (.a (.v 1) (.a (.a (.n 46) (.v 2)) (.v 3)))] 1 (.a (.v 1) (.n 46)) (.v 0) rfl hlen))), if_neg (by simp), if_neg (by simp), if_neg (by simp), if_neg (by simpa using h1), if_neg (by simp; (exact (linL [_, _, _, _, _] [.l 1 (.n 22) (.v 0), .r 1 (.v 1) (.a (.v 2) (.a (.a (.n 46) (.v 3)) (.v 0))), .r 1 (.a (.v 4) (.n 22)) (.v 1)] 1 (.a (.a (.v 2) (.n 46)) (.v 3)) (.v 4) rfl h22 hlen (Nat.sub_add_cancel (linL [_, _, _, _] [.r 1 (.v 0) (.a (.v 1) (.a (.a (.n 46) (.v 2)) (.v 3)))] 1 (.n 22) (.v 0) rfl hlen))))), if_neg (by simpa using hs)]
  · show d.drop (a.i + 46 + nm.length) = rest
    rw [Nat.add_assoc, ← List.drop_drop, h]
    have : (rowB a.pl (nm, [b0, b1, b2, b3], s)).length = 46 + nm.length := by simp only [rowB, List.length_append]; rfl
    rw [← this, List.drop_left]
  · simp only [rroom]; (exact (linE [_, _, _] [] 1 (.a (.a (.a (.v 0) (.n 30)) (.v 1)) (.v 2)) (.a (.v 0) (.a (.a (.n 30) (.v 1)) (.v 2))) rfl rfl))
theorem rowB_len {pl : Nat} {r : Row} (h : RowOk r) : (rowB pl r).length = 46 + r.1.length := by
  rw [rowB, List.length_append, rowH_len h.2.2.1]
noncomputable def rsize (rs : List Row) : Nat := (rs.map fun r => 46 + r.1.length).sum
theorem rowsB_len : ∀ {rs : List Row} (pl : Nat), (∀ r ∈ rs, RowOk r) → (rowsB pl rs).length = rsize rs
  | [], _, _ => rfl
  | r :: rs, pl, h => by
    rw [rowsB, List.length_append, rowB_len (h r (.head _)), rowsB_len _ fun r' hr => h r' (.tail _ hr)]; rfl
noncomputable def fresh : List Bs → List Row → Prop
  | _, [] => True
  | seen, r :: rs => r.1 ∉ seen ∧ fresh (seen ++ [r.1]) rs
theorem dF_rows (d : Bs) : ∀ (xs : List Nat) (a a' : DS), xs.foldlM (dG d) a = some a' → ∃ rs : List Row, rs.length = xs.length ∧ (∀ r ∈ rs, RowOk r) ∧ fresh a.seen rs ∧ d.drop a.i = rowsB a.pl rs ++ d.drop a'.i ∧ a'.i = a.i + rsize rs ∧ a'.pl = a.pl + tot rs ∧ a'.out = a.out ++ items a.pl rs
  | [], a, a', h => by cases h; exact ⟨[], rfl, by simp, trivial, rfl, rfl, rfl, by simp [items]⟩
  | x :: xs, a, a', h => by
    rw [List.foldlM_cons] at h
    cases hg : dG d a x with
    | none => rw [hg] at h; cases h
    | some b =>
      rw [hg] at h
      obtain ⟨rs, e1, e2, e3, e4, e5, e6, e7⟩ := dF_rows d xs b a' h
      obtain ⟨r, f1, f2, f3, f4, f5, f6, f7, f8⟩ := dG_row hg
      refine ⟨r :: rs, by simp [e1], ?_, ⟨f7, f6 ▸ e3⟩, ?_, ?_, ?_, ?_⟩
      · intro r' hr
        cases hr with
        | head => exact f1
        | tail _ hr => exact e2 r' hr
      · rw [f2, e4, f4]; simp [rowsB]
      · rw [e5, f3]; simp only [rsize, List.map_cons, List.sum_cons]; (exact (linE [_, _, _] [] 1 (.a (.a (.a (.v 0) (.n 46)) (.v 1)) (.v 2)) (.a (.v 0) (.a (.a (.n 46) (.v 1)) (.v 2))) rfl rfl))
      · rw [e6, f4]; simp only [tot, List.map_cons, List.sum_cons]; (exact (linE [_, _, _] [] 1 (.a (.a (.v 0) (.v 1)) (.v 2)) (.a (.v 0) (.a (.v 1) (.v 2))) rfl rfl))
      · rw [e7, f5, f4]; simp [items]
theorem dF_of (d : Bs) : ∀ (rs : List Row) (xs : List Nat) (a : DS) (rest : Bs), rs.length = xs.length → (∀ r ∈ rs, RowOk r) → fresh a.seen rs → d.drop a.i = rowsB a.pl rs ++ rest → 22 ≤ rest.length → a.pl + tot rs < 4294967296 →
    ∃ a', xs.foldlM (dG d) a = some a' ∧ a'.i = a.i + rsize rs ∧ a'.pl = a.pl + tot rs ∧ a'.out = a.out ++ items a.pl rs
  | [], [], a, rest, _, _, _, _, _, _ => ⟨a, rfl, rfl, rfl, by simp [items]⟩
  | [], x :: xs, a, rest, h, _, _, _, _, _ => by cases h
  | r :: rs, [], a, rest, h, _, _, _, _, _ => by cases h
  | r :: rs, x :: xs, a, rest, h0, h1, h2, h3, h4, h5 => by
    simp only [tot, List.map_cons, List.sum_cons] at h5
    obtain ⟨b, g1, g2', g3, g4', g5, g6⟩ := dG_of (d := d) (a := a) (k := x) (r := r) (rest := rowsB (a.pl + rroom r) rs ++ rest) (h1 r (.head _)) (by rw [h3]; simp [rowsB]) (by simp; (exact (linL [_, _] [.l 1 (.n 22) (.v 0)] 1 (.n 22) (.a (.v 1) (.v 0)) rfl h4))) (by (exact (linS [_, _, _] [.s 1 (.a (.v 0) (.a (.v 1) (.v 2))) (.n 4294967296)] 1 (.v 0) (.n 4294967296) rfl h5))) h2.1
    obtain ⟨a', k1, k2, k3, k4⟩ := dF_of d rs xs b rest (by simpa using h0) (fun r' hr => h1 r' (.tail _ hr)) (g6 ▸ h2.2) (by rw [g2', g4']) h4 (by rw [g4']; simp only [tot]; (exact (linS [_, _, _] [.s 1 (.a (.v 0) (.a (.v 1) (.v 2))) (.n 4294967296)] 1 (.a (.a (.v 0) (.v 1)) (.v 2)) (.n 4294967296) rfl h5)))
    refine ⟨a', ?_, ?_, ?_, ?_⟩
    · rw [List.foldlM_cons, g1]; exact k1
    · rw [k2, g3]; simp only [rsize, List.map_cons, List.sum_cons]; (exact (linE [_, _, _] [] 1 (.a (.a (.a (.v 0) (.n 46)) (.v 1)) (.v 2)) (.a (.v 0) (.a (.a (.n 46) (.v 1)) (.v 2))) rfl rfl))
    · rw [k3, g4']; simp only [tot, List.map_cons, List.sum_cons]; (exact (linE [_, _, _] [] 1 (.a (.a (.v 0) (.v 1)) (.v 2)) (.a (.v 0) (.a (.v 1) (.v 2))) rfl rfl))
    · rw [k4, g5, g4']; simp [items]
theorem sb {n : Nat} (a b c : Nat) (hn : 22 ≤ n) (ha : Nat.ble a 22 = true) (e : Nat.beq (c + b) a = true) : n - a + b = n - c := by
  have ha := Nat.le_of_ble_eq_true ha
  have e := Nat.eq_of_beq_eq_true e
  (exact (linE [_, _, _, _, _, _] [.q 1 (.a (.v 0) (.v 1)) (.v 2), .q 1 (.a (.v 3) (.v 2)) (.v 4), .r 1 (.a (.v 5) (.v 0)) (.v 4)] 1 (.a (.v 3) (.v 1)) (.v 5) rfl rfl e (Nat.sub_add_cancel (linL [_, _] [.l 1 (.n 22) (.v 0), .l 1 (.v 1) (.n 22)] 1 (.v 1) (.v 0) rfl hn ha)) (Nat.sub_add_cancel (linL [_, _, _, _, _] [.q 1 (.a (.v 0) (.v 1)) (.v 2), .q 1 (.a (.v 3) (.v 2)) (.v 4)] 1 (.v 0) (.v 4) rfl e (Nat.sub_add_cancel (linL [_, _] [.l 1 (.n 22) (.v 0), .l 1 (.v 1) (.n 22)] 1 (.v 1) (.v 0) rfl hn ha))))))
theorem sbl {n : Nat} (a b : Nat) (hn : 22 ≤ n) (ha : Nat.ble a 22 = true) (hb : Nat.ble b a = true) : n - a + b ≤ n := by
  have ha := Nat.le_of_ble_eq_true ha
  have hb := Nat.le_of_ble_eq_true hb
  (exact (linL [_, _, _, _] [.l 1 (.v 0) (.v 1), .q 1 (.a (.v 2) (.v 1)) (.v 3)] 1 (.a (.v 2) (.v 0)) (.v 3) rfl hb (Nat.sub_add_cancel (linL [_, _] [.l 1 (.n 22) (.v 0), .l 1 (.v 1) (.n 22)] 1 (.v 1) (.v 0) rfl hn ha))))
structure Gram (d pre : Bs) (rs : List Row) : Prop where
  eq : d = pre ++ rowsB 0 rs ++ endB rs.length (rsize rs) pre.length
  tt : pre.length = tot rs
  ok : ∀ r ∈ rs, RowOk r
  fr : fresh [] rs
  cnt : rs.length < 65536
theorem gr_of_dir {d : Bs} {l : List Itm} (h : dirP d = some l) : ∃ pre rs, Gram d pre rs ∧ l = items 0 rs := by
  obtain ⟨h22, k1, k2, k3, k4, k5, k6, a, ha, k7, k8, rfl⟩ := dirP_some h
  obtain ⟨rs, e1, e2, e3, e4, e5, e6, e7⟩ := dF_rows d _ _ _ ha
  simp only [Nat.zero_add, List.nil_append] at e3 e4 e5 e6 e7
  have e1 : rs.length = g2 d (d.length - 14) := by simpa using e1
  have hc := g2_lt d (d.length - 14)
  have s0 : d.drop (d.length - 22) = (d.take (d.length - 18)).drop (d.length - 22) ++ d.drop (d.length - 18) := by
    have := dropS (d := d) (d.length - 22) 4
    rwa [sb (n := d.length) 22 4 18 h22 rfl rfl] at this
  have s1 : d.drop (d.length - 18) = le2 (g2 d (d.length - 18)) ++ d.drop (d.length - 16) := by
    have := drop2 (d := d) (i := d.length - 18) (sbl (n := d.length) 18 2 h22 rfl rfl)
    rwa [sb (n := d.length) 18 2 16 h22 rfl rfl] at this
  have s2 : d.drop (d.length - 16) = le2 (g2 d (d.length - 16)) ++ d.drop (d.length - 14) := by
    have := drop2 (d := d) (i := d.length - 16) (sbl (n := d.length) 16 2 h22 rfl rfl)
    rwa [sb (n := d.length) 16 2 14 h22 rfl rfl] at this
  have s3 : d.drop (d.length - 14) = le2 (g2 d (d.length - 14)) ++ d.drop (d.length - 12) := by
    have := drop2 (d := d) (i := d.length - 14) (sbl (n := d.length) 14 2 h22 rfl rfl)
    rwa [sb (n := d.length) 14 2 12 h22 rfl rfl] at this
  have s4 : d.drop (d.length - 12) = le2 (g2 d (d.length - 12)) ++ d.drop (d.length - 10) := by
    have := drop2 (d := d) (i := d.length - 12) (sbl (n := d.length) 12 2 h22 rfl rfl)
    rwa [sb (n := d.length) 12 2 10 h22 rfl rfl] at this
  have s5 : d.drop (d.length - 10) = le4 (g4 d (d.length - 10)) ++ d.drop (d.length - 6) := by
    have := drop4 (d := d) (i := d.length - 10) (sbl (n := d.length) 10 4 h22 rfl rfl)
    rwa [sb (n := d.length) 10 4 6 h22 rfl rfl] at this
  have s6 : d.drop (d.length - 6) = le4 (g4 d (d.length - 6)) ++ d.drop (d.length - 2) := by
    have := drop4 (d := d) (i := d.length - 6) (sbl (n := d.length) 6 4 h22 rfl rfl)
    rwa [sb (n := d.length) 6 4 2 h22 rfl rfl] at this
  have s7 : d.drop (d.length - 2) = le2 (g2 d (d.length - 2)) ++ [] := by
    have := drop2 (d := d) (i := d.length - 2) (sbl (n := d.length) 2 2 h22 rfl rfl)
    rwa [show d.length - 2 + 2 = d.length by (exact (linE [_, _] [.q 1 (.a (.v 0) (.n 2)) (.v 1)] 1 (.a (.v 0) (.n 2)) (.v 1) rfl rfl (Nat.sub_add_cancel (linL [_] [.l 1 (.n 22) (.v 0)] 1 (.n 2) (.v 0) rfl h22)))), List.drop_length] at this
  have hpl : (d.take (g4 d (d.length - 6))).length = g4 d (d.length - 6) := by rw [List.length_take]; (exact (linE [_, _] [.q 1 (.v 0) (.v 1)] 1 (.v 0) (.v 1) rfl rfl (Nat.min_eq_left (linL [_, _, _] [.q 1 (.a (.a (.v 0) (.v 1)) (.n 22)) (.v 2)] 1 (.v 0) (.v 2) rfl k6))))
  have hsz : g4 d (d.length - 10) = rsize rs := by (exact (linE [_, _, _, _, _, _] [.q 1 (.a (.a (.v 0) (.v 1)) (.n 22)) (.v 2), .r 1 (.v 3) (.v 4), .q 1 (.v 3) (.a (.v 0) (.v 5)), .r 1 (.a (.v 4) (.n 22)) (.v 2)] 1 (.v 1) (.v 5) rfl rfl k6 k8 e5 (Nat.sub_add_cancel (linL [_] [.l 1 (.n 22) (.v 0)] 1 (.n 22) (.v 0) rfl h22))))
  refine ⟨d.take (g4 d (d.length - 6)), rs, ⟨?_, by rw [hpl]; (exact (linE [_, _, _] [.r 1 (.v 0) (.v 1), .q 1 (.v 0) (.v 2)] 1 (.v 1) (.v 2) rfl rfl k7 e6)), e2, e3, by (exact (linS [_, _] [.q 1 (.v 0) (.v 1), .s 1 (.v 1) (.n 65536)] 1 (.v 0) (.n 65536) rfl e1 hc))⟩, e7⟩
  conv => lhs; rw [← List.take_append_drop (g4 d (d.length - 6)) d, e4, k8, s0, k1, s1, k2, s2, k3, s3, s4, ← k5, s5, s6, s7, k4]
  rw [hpl, e1, ← hsz]
  simp [endB]
theorem dir_of_gr {d pre : Bs} {rs : List Row} (hl : d.length ≤ 16777216) (h : Gram d pre rs) : dirP d = some (items 0 rs) := by
  obtain ⟨heq, htt, hok, hfr, hcnt⟩ := h
  have hrl := rowsB_len 0 hok
  have hn : d.length = pre.length + rsize rs + 22 := by
    rw [heq]; simp only [List.length_append, endB_length, hrl]
  have h22 : 22 ≤ d.length := by rw [hn]; exact Nat.le_add_left 22 _
  have hd : d.drop (d.length - 22) = endB rs.length (rsize rs) pre.length := by
    rw [hn, Nat.add_sub_cancel]
    conv => lhs; rw [heq]
    rw [← hrl, ← List.length_append, List.drop_left]
  have q1 : (d.take (d.length - 18)).drop (d.length - 22) = [80, 75, 5, 6] := by
    have := cut_drop d (d.length - 22) 0 4
    rw [sb (n := d.length) 22 4 18 h22 rfl rfl, hd] at this
    exact this
  have q2 : g2 d (d.length - 18) = 0 := by
    have := g2_drop d (d.length - 22) 4
    rw [sb (n := d.length) 22 4 18 h22 rfl rfl, hd] at this
    exact this.trans (g2_le2 (n := 0) (by (exact (linS [] [] 1 (.n 0) (.n 65536) rfl))) [])
  have q3 : g2 d (d.length - 16) = 0 := by
    have := g2_drop d (d.length - 22) 6
    rw [sb (n := d.length) 22 6 16 h22 rfl rfl, hd] at this
    exact this.trans (g2_le2 (n := 0) (by (exact (linS [] [] 1 (.n 0) (.n 65536) rfl))) [])
  have q4 : g2 d (d.length - 14) = rs.length := by
    have := g2_drop d (d.length - 22) 8
    rw [sb (n := d.length) 22 8 14 h22 rfl rfl, hd] at this
    exact this.trans (g2_le2 hcnt [])
  have q5 : g2 d (d.length - 12) = rs.length := by
    have := g2_drop d (d.length - 22) 10
    rw [sb (n := d.length) 22 10 12 h22 rfl rfl, hd] at this
    exact this.trans (g2_le2 hcnt [])
  have q6 : g4 d (d.length - 10) = rsize rs := by
    have := g4_drop d (d.length - 22) 12
    rw [sb (n := d.length) 22 12 10 h22 rfl rfl, hd] at this
    exact this.trans (g4_le4 (by (exact (linS [_, _, _] [.l 1 (.v 0) (.n 16777216), .r 1 (.v 0) (.a (.a (.v 1) (.v 2)) (.n 22))] 1 (.v 2) (.n 4294967296) rfl hl hn))) [])
  have q7 : g4 d (d.length - 6) = pre.length := by
    have := g4_drop d (d.length - 22) 16
    rw [sb (n := d.length) 22 16 6 h22 rfl rfl, hd] at this
    exact this.trans (g4_le4 (by (exact (linS [_, _, _] [.l 1 (.v 0) (.n 16777216), .r 1 (.v 0) (.a (.a (.v 1) (.v 2)) (.n 22))] 1 (.v 1) (.n 4294967296) rfl hl hn))) [])
  have q8 : g2 d (d.length - 2) = 0 := by
    have := g2_drop d (d.length - 22) 20
    rw [sb (n := d.length) 22 20 2 h22 rfl rfl, hd] at this
    exact this.trans (g2_le2 (n := 0) (by (exact (linS [] [] 1 (.n 0) (.n 65536) rfl))) [])
  have hdr : d.drop pre.length = rowsB 0 rs ++ endB rs.length (rsize rs) pre.length := by
    conv => lhs; rw [heq]
    rw [List.append_assoc, List.drop_left]
  obtain ⟨a, k1, k2, k3, k4⟩ := dF_of d rs (List.range rs.length) ⟨pre.length, 0, [], [], .unb, .unb, .unb, .unb, .unb⟩ (endB rs.length (rsize rs) pre.length) (by simp) hok hfr hdr (by rw [endB_length]; exact Nat.le_refl _) (by simp only; (exact (linS [_, _, _, _] [.l 1 (.v 0) (.n 16777216), .r 1 (.v 1) (.v 2), .r 1 (.v 0) (.a (.a (.v 1) (.v 3)) (.n 22))] 1 (.a (.n 0) (.v 2)) (.n 4294967296) rfl hl htt hn)))
  simp only [Nat.zero_add, List.nil_append] at k2 k3 k4
  unfold dirP
  rw [q1, q2, q3, q4, q5, q6, q7, q8]
  rw [if_neg (by simp; (exact (linL [_] [.l 1 (.n 22) (.v 0)] 1 (.n 22) (.v 0) rfl h22))), if_neg (by simp), if_neg (by simp; (exact (linE [_, _, _] [.r 1 (.v 0) (.a (.a (.v 1) (.v 2)) (.n 22))] 1 (.a (.a (.v 1) (.v 2)) (.n 22)) (.v 0) rfl rfl hn))), k1]
  show (if _ then none else some a.out) = _
  rw [if_neg (by simp; (exact (And.intro (linE [_, _, _] [.r 1 (.v 0) (.v 1), .q 1 (.v 2) (.v 1)] 1 (.v 2) (.v 0) rfl rfl htt k3) (linE [_, _, _, _, _] [.r 1 (.v 0) (.a (.a (.v 1) (.v 2)) (.n 22)), .q 1 (.v 3) (.a (.v 1) (.v 2)), .r 1 (.a (.v 4) (.n 22)) (.v 0)] 1 (.v 3) (.v 4) rfl rfl hn k2 (Nat.sub_add_cancel (linL [_] [.l 1 (.n 22) (.v 0)] 1 (.n 22) (.v 0) rfl h22)))))), k4]
theorem xor_lt {a b n : Nat} (ha : a < 2 ^ n) (hb : b < 2 ^ n) : a ^^^ b < 2 ^ n := Nat.xor_lt_two_pow ha hb
theorem cstep_lt {c : Nat} (h : c < 4294967296) : cstep c < 4294967296 := by
  unfold cstep
  split
  · exact xor_lt (n := 32) (by decide) (by (exact (linS [_, _, _] [.s 1 (.v 0) (.n 4294967296), .q 1 (.a (.m 2 (.v 1)) (.v 2)) (.v 0)] 2 (.v 1) (.n (2 ^ 32)) rfl h (Nat.div_add_mod _ _))))
  · (exact (linS [_, _, _] [.s 1 (.v 0) (.n 4294967296), .q 1 (.a (.m 2 (.v 1)) (.v 2)) (.v 0)] 2 (.v 1) (.n 4294967296) rfl h (Nat.div_add_mod _ _)))
theorem cstep8_lt {c : Nat} (h : c < 4294967296) : cstep8 c < 4294967296 :=
  cstep_lt (cstep_lt (cstep_lt (cstep_lt (cstep_lt (cstep_lt (cstep_lt (cstep_lt h)))))))
theorem crcUp_lt {c : Nat} (b : UInt8) (h : c < 4294967296) : crcUp c b < 4294967296 := by
  unfold crcUp
  exact xor_lt (n := 32) (cstep8_lt (by (exact (linS [_] [.s 1 (.v 0) (.n 256)] 1 (.v 0) (.n 4294967296) rfl (Nat.mod_lt _ (by decide)))))) (by (exact (linS [_, _, _] [.s 1 (.v 0) (.n 4294967296), .q 1 (.a (.m 256 (.v 1)) (.v 2)) (.v 0)] 256 (.v 1) (.n (2 ^ 32)) rfl h (Nat.div_add_mod _ _))))
theorem tops : ((List.range 256).map fun k => cstep8 k / 16777216).Nodup := by decide +kernel
theorem tops_inj {j k : Nat} (hj : j < 256) (hk : k < 256) (h : cstep8 j / 16777216 = cstep8 k / 16777216) : j = k := by
  have hn := List.pairwise_iff_getElem.mp tops
  rcases Nat.lt_trichotomy j k with q | q | q
  · have := hn j k (by simpa using hj) (by simpa using hk) q
    simp at this; exact absurd h this
  · exact q
  · have := hn k j (by simpa using hk) (by simpa using hj) q
    simp at this; exact absurd h.symm this
theorem top_xor {a b : Nat} (hb : b < 16777216) : (a ^^^ b) / 16777216 = a / 16777216 := by
  have h := Nat.shiftRight_xor_distrib (a := a) (b := b) (i := 24)
  rw [Nat.shiftRight_eq_div_pow, Nat.shiftRight_eq_div_pow, Nat.shiftRight_eq_div_pow] at h
  have h0 : b / 2 ^ 24 = 0 := Nat.div_eq_of_lt hb
  rw [h0, Nat.xor_zero] at h
  exact h
theorem xor_cancel {a b c : Nat} (h : a ^^^ b = a ^^^ c) : b = c := by
  have := congrArg (a ^^^ ·) h
  simpa [← Nat.xor_assoc] using this
theorem mod_xor (a b : Nat) : (a ^^^ b) % 256 = (a % 256) ^^^ (b % 256) := Nat.xor_mod_two_pow (n := 8)
theorem crcUp_inj {c c' : Nat} {b b' : UInt8} (hc : c < 4294967296) (hc' : c' < 4294967296) (h : crcUp c b = crcUp c' b') : (c ^^^ b.toNat) % 256 = (c' ^^^ b'.toNat) % 256 ∧ c / 256 = c' / 256 := by
  unfold crcUp at h
  have t := congrArg (· / 16777216) h
  simp only [top_xor (show c / 256 < 16777216 by (exact (linS [_, _, _] [.s 1 (.v 0) (.n 4294967296), .q 1 (.a (.m 256 (.v 1)) (.v 2)) (.v 0)] 256 (.v 1) (.n 16777216) rfl hc (Nat.div_add_mod _ _)))), top_xor (show c' / 256 < 16777216 by (exact (linS [_, _, _] [.s 1 (.v 0) (.n 4294967296), .q 1 (.a (.m 256 (.v 1)) (.v 2)) (.v 0)] 256 (.v 1) (.n 16777216) rfl hc' (Nat.div_add_mod _ _))))] at t
  have e := tops_inj (Nat.mod_lt _ (by decide)) (Nat.mod_lt _ (by decide)) t
  rw [e] at h
  exact ⟨e, xor_cancel h⟩
theorem crcUp_c {c c' : Nat} {b : UInt8} (hc : c < 4294967296) (hc' : c' < 4294967296) (h : crcUp c b = crcUp c' b) : c = c' := by
  obtain ⟨h1, h2⟩ := crcUp_inj hc hc' h
  rw [mod_xor, mod_xor, Nat.xor_comm (c % 256), Nat.xor_comm (c' % 256)] at h1
  have := xor_cancel h1
  (exact (linE [_, _, _, _, _, _] [.r 1 (.a (.m 256 (.v 0)) (.v 1)) (.v 2), .q 1 (.a (.m 256 (.v 3)) (.v 4)) (.v 5), .q 256 (.v 0) (.v 3), .q 1 (.v 1) (.v 4)] 1 (.v 2) (.v 5) rfl rfl (Nat.div_add_mod _ _) (Nat.div_add_mod _ _) h2 this))
theorem crcUp_b {c : Nat} {b b' : UInt8} (hc : c < 4294967296) (h : crcUp c b = crcUp c b') : b = b' := by
  obtain ⟨h1, _⟩ := crcUp_inj hc hc h
  rw [mod_xor, mod_xor] at h1
  have := xor_cancel h1
  have := b.toNat_lt
  have := b'.toNat_lt
  exact UInt8.toNat_inj.mp (by (exact (linE [_, _, _, _] [.q 1 (.v 0) (.v 1), .r 1 (.v 0) (.v 2), .q 1 (.v 1) (.v 3)] 1 (.v 2) (.v 3) rfl rfl (by assumption) (Nat.mod_eq_of_lt (linS [_] [.s 1 (.v 0) (.n (2 ^ 8))] 1 (.v 0) (.n 256) rfl (by assumption))) (Nat.mod_eq_of_lt (linS [_] [.s 1 (.v 0) (.n (2 ^ 8))] 1 (.v 0) (.n 256) rfl this)))))
theorem crcRun_lt : ∀ (d : Bs) {c : Nat}, c < 4294967296 → crcRun c d < 4294967296
  | [], _, h => h
  | b :: d, _, h => crcRun_lt d (crcUp_lt b h)
theorem crcRun_c : ∀ (d : Bs) {c c' : Nat}, c < 4294967296 → c' < 4294967296 → crcRun c d = crcRun c' d → c = c'
  | [], _, _, _, _, h => h
  | b :: d, _, _, hc, hc', h => crcUp_c hc hc' (crcRun_c d (crcUp_lt b hc) (crcUp_lt b hc') h)
theorem crcRun_app (c : Nat) (p q : Bs) : crcRun c (p ++ q) = crcRun (crcRun c p) q := List.foldl_append
theorem crc_lt (d : Bs) : crc d < 4294967296 := xor_lt (n := 32) (crcRun_lt d (by decide)) (by decide)
theorem crc_byte {p q : Bs} {x y : UInt8} (h : crc (p ++ x :: q) = crc (p ++ y :: q)) : x = y := by
  unfold crc at h
  have h : crcRun 4294967295 (p ++ x :: q) = crcRun 4294967295 (p ++ y :: q) := by
    rw [Nat.xor_comm, Nat.xor_comm (crcRun _ (p ++ y :: q))] at h
    exact xor_cancel h
  rw [crcRun_app, crcRun_app] at h
  have hp := crcRun_lt p (c := 4294967295) (by decide)
  exact crcUp_b hp (crcRun_c q (crcUp_lt x hp) (crcUp_lt y hp) h)
noncomputable def rowOf (e : Ent) : Row := (e.1, le4 (crc e.2), e.2.length)
theorem cen_row (off : Nat) (e : Ent) : cenH off e = rowH off (rowOf e) := rfl
theorem room_row (e : Ent) : rroom (rowOf e) = room e := rfl
theorem middle_rows : ∀ (es : List Ent) (off : Nat), middle off es = rowsB off (es.map rowOf)
  | [], _ => rfl
  | e :: es, off => by
    simp only [middle, List.map_cons, rowsB, rowB, cen_row, room_row, middle_rows es]
    rfl
noncomputable def Fit (es : List Ent) : Prop := es.length < 65536 ∧ ∀ e ∈ es, e.1.length < 65536 ∧ e.2.length < 4294967296
theorem good_fresh : ∀ (es : List Ent) (seen : List Bs), goodFrom seen es = true ↔ (∀ e ∈ es, e.1 ≠ []) ∧ fresh seen (es.map rowOf)
  | [], seen => by simp [goodFrom, fresh]
  | e :: es, seen => by
    have ih := good_fresh es (seen ++ [e.1])
    simp only [goodFrom, List.map_cons, fresh, Bool.and_eq_true, ih, List.mem_cons, forall_eq_or_imp]
    have : (rowOf e).1 = e.1 := rfl
    rw [this]
    simp
    constructor
    · rintro ⟨⟨a, b⟩, c, d⟩; exact ⟨⟨a, c⟩, b, d⟩
    · rintro ⟨⟨a, c⟩, b, d⟩; exact ⟨⟨a, b⟩, c, d⟩
theorem rows_ok {es : List Ent} (hf : Fit es) (hg : ∀ e ∈ es, e.1 ≠ []) : ∀ r ∈ es.map rowOf, RowOk r := by
  intro r hr
  obtain ⟨e, he, rfl⟩ := List.mem_map.mp hr
  exact ⟨hg e he, (hf.2 e he).1, rfl, (hf.2 e he).2⟩
theorem tot_rows (es : List Ent) : tot (es.map rowOf) = (front es).length := by
  rw [front_room, tot, List.map_map]; rfl
theorem arc_eq {es : List Ent} (hf : Fit es) (hg : good es = true) : arc es = front es ++ rowsB 0 (es.map rowOf) ++ endB (es.map rowOf).length (rsize (es.map rowOf)) (front es).length := by
  have h := (good_fresh es []).mp hg
  rw [arc, middle_rows, rowsB_len 0 (rows_ok hf h.1), List.length_map]
theorem arc_gram {es : List Ent} (hf : Fit es) (hg : good es = true) : Gram (arc es) (front es) (es.map rowOf) := by
  have h := (good_fresh es []).mp hg
  exact ⟨arc_eq hf hg, (tot_rows es).symm, rows_ok hf h.1, h.2, by rw [List.length_map]; exact hf.1⟩
theorem rowsB_inj : ∀ (rs rs' : List Row) (pl : Nat), rs.length = rs'.length → (∀ r ∈ rs, RowOk r) → (∀ r ∈ rs', RowOk r) → ∀ (x y : Bs), rowsB pl rs ++ x = rowsB pl rs' ++ y → rs = rs' ∧ x = y
  | [], [], _, _, _, _, x, y, h => ⟨rfl, h⟩
  | [], _ :: _, _, h, _, _, _, _, _ => by cases h
  | _ :: _, [], _, h, _, _, _, _, _ => by cases h
  | r :: rs, r' :: rs', pl, h0, h1, h2, x, y, h => by
    obtain ⟨nm, cr, s⟩ := r
    obtain ⟨nm', cr', s'⟩ := r'
    have o1 := h1 _ (.head _)
    have o2 := h2 _ (.head _)
    simp only [rowsB, rowB, List.append_assoc] at h
    have hh := List.append_inj h (by rw [rowH_len o1.2.2.1, rowH_len o2.2.2.1])
    obtain ⟨hh, ht⟩ := hh
    simp only [rowH, List.append_assoc] at hh
    have a1 := List.append_cancel_left (List.append_cancel_left hh)
    obtain ⟨c1, a2⟩ := List.append_inj a1 (by rw [show cr.length = 4 from o1.2.2.1, show cr'.length = 4 from o2.2.2.1])
    obtain ⟨c2, a3⟩ := List.append_inj a2 rfl
    obtain ⟨_, a4⟩ := List.append_inj a3 rfl
    obtain ⟨c3, _⟩ := List.append_inj a4 rfl
    have e1 : s = s' := le4_inj o1.2.2.2 o2.2.2.2 c2
    have e2 : nm.length = nm'.length := le2_inj o1.2.1 o2.2.1 c3
    obtain ⟨e3, ht⟩ := List.append_inj ht e2
    subst e3 e1
    have c1 : cr = cr' := c1
    subst c1
    obtain ⟨e4, e5⟩ := rowsB_inj rs rs' _ (by simpa using h0) (fun r hr => h1 r (.tail _ hr)) (fun r hr => h2 r (.tail _ hr)) x y ht
    exact ⟨by rw [e4], e5⟩
theorem gram_inj {d pre pre' : Bs} {rs rs' : List Row} (hl : d.length ≤ 16777216) (h : Gram d pre rs) (h' : Gram d pre' rs') : pre = pre' ∧ rs = rs' := by
  have n1 : d.length = pre.length + rsize rs + 22 := by
    conv => lhs; rw [h.eq]
    simp only [List.length_append, endB_length, rowsB_len 0 h.ok]
  have n2 : d.length = pre'.length + rsize rs' + 22 := by
    conv => lhs; rw [h'.eq]
    simp only [List.length_append, endB_length, rowsB_len 0 h'.ok]
  have he : pre ++ rowsB 0 rs ++ endB rs.length (rsize rs) pre.length = pre' ++ rowsB 0 rs' ++ endB rs'.length (rsize rs') pre'.length := h.eq.symm.trans h'.eq
  obtain ⟨q1, q2⟩ := List.append_inj' he rfl
  simp only [endB, List.append_assoc] at q2
  have q2 := List.append_cancel_left (List.append_cancel_left (List.append_cancel_left q2))
  obtain ⟨c1, q2⟩ := List.append_inj q2 rfl
  obtain ⟨_, q2⟩ := List.append_inj q2 rfl
  obtain ⟨_, q2⟩ := List.append_inj q2 rfl
  obtain ⟨c2, _⟩ := List.append_inj q2 rfl
  have e1 : rs.length = rs'.length := le2_inj h.cnt h'.cnt c1
  have e2 : pre.length = pre'.length := le4_inj (by (exact (linS [_, _, _] [.l 1 (.v 0) (.n 16777216), .r 1 (.v 0) (.a (.a (.v 1) (.v 2)) (.n 22))] 1 (.v 1) (.n 4294967296) rfl hl n1))) (by (exact (linS [_, _, _] [.l 1 (.v 0) (.n 16777216), .r 1 (.v 0) (.a (.a (.v 1) (.v 2)) (.n 22))] 1 (.v 1) (.n 4294967296) rfl hl n2))) c2
  obtain ⟨e3, e4⟩ := List.append_inj q1 e2
  refine ⟨e3, (rowsB_inj rs rs' 0 e1 h.ok h'.ok [] [] (by simpa using e4)).1⟩
theorem front_cons' (e : Ent) (es : List Ent) : front (e :: es) = locB e ++ front es := rfl
noncomputable def locH (e : Ent) : Bs := [80, 75, 3, 4] ++ le2 20 ++ midB e.1 e.2
theorem locB_eq (e : Ent) : locB e = locH e ++ e.1 ++ e.2 := rfl
theorem locH_length (e : Ent) : (locH e).length = 30 := rfl
theorem cut_items {d : Bs} : ∀ (es : List Ent) (pl : Nat) (rest : Bs), d.drop pl = front es ++ rest → (items pl (es.map rowOf)).map (cutE d) = es
  | [], _, _, _ => rfl
  | e :: es, pl, rest, h => by
    rw [List.map_cons, items, List.map_cons]
    have h1 : d.drop pl = locH e ++ e.1 ++ (e.2 ++ (front es ++ rest)) := by rw [h, front_cons', locB_eq]; simp
    have h2 : d.drop (pl + room e) = front es ++ rest := by
      rw [← List.drop_drop, h, front_cons', List.append_assoc, ← locB_length, List.drop_left]
    rw [room_row, cut_items es (pl + room e) rest h2]
    congr 1
    obtain ⟨nm, dt⟩ := e
    show (nm, (d.take (pl + 30 + nm.length + dt.length)).drop (pl + 30 + nm.length)) = (nm, dt)
    congr 1
    have h3 : d.drop (pl + 30 + nm.length) = dt ++ (front es ++ rest) := by
      rw [show pl + 30 + nm.length = pl + (locH (nm, dt) ++ nm).length by rw [List.length_append, locH_length]; (exact (linE [_, _] [] 1 (.a (.a (.v 0) (.n 30)) (.v 1)) (.a (.v 0) (.a (.n 30) (.v 1))) rfl rfl)), ← List.drop_drop, h1, List.drop_left]
    rw [List.drop_take, h3, Nat.add_sub_cancel_left, List.take_left]
theorem read_arc {es : List Ent} (hf : Fit es) (hg : good es = true) (hl : (arc es).length ≤ 16777216) : readP (arc es) = some es := by
  have hG := arc_gram hf hg
  unfold readP
  rw [dir_of_gr hl hG, Option.bind_some, cut_items es 0 (rowsB 0 (es.map rowOf) ++ endB (es.map rowOf).length (rsize (es.map rowOf)) (front es).length) (by rw [List.drop_zero, arc_eq hf hg, List.append_assoc])]
  simp
theorem items_names : ∀ (rs : List Row) (pl : Nat), (items pl rs).map (·.1) = rs.map (·.1)
  | [], _ => rfl
  | r :: rs, pl => by rw [items, List.map_cons, items_names rs]; rfl
theorem names_arc {es : List Ent} (hf : Fit es) (hg : good es = true) (hl : (arc es).length ≤ 16777216) : (dirP (arc es)).map (fun l => l.map (·.1)) = some (es.map (·.1)) := by
  rw [dir_of_gr hl (arc_gram hf hg), Option.map_some, items_names, List.map_map]; rfl
theorem read_some {d : Bs} {es : List Ent} (hl : d.length ≤ 16777216) (h : readP d = some es) : good es = true ∧ Fit es ∧ arc es = d := by
  unfold readP at h
  obtain ⟨l, hd, h⟩ := Option.bind_eq_some_iff.mp h
  obtain ⟨h1, h⟩ := Option.ite_none_left_eq_some.mp h
  have h := Option.some.inj h
  rw [h] at h1
  have h1 : arc es = d := by simpa using h1
  obtain ⟨k1, k2, k3⟩ := dir_good hd
  rw [h] at k1
  obtain ⟨pre, rs, hG, rfl⟩ := gr_of_dir hd
  refine ⟨k1, ⟨?_, ?_⟩, h1⟩
  · rw [← h, List.length_map]; exact dirP_len hd
  · intro e he
    rw [← h] at he
    obtain ⟨t, ht, rfl⟩ := List.mem_map.mp he
    have hi : ∀ (rs : List Row) (pl : Nat), t ∈ items pl rs → ∃ r ∈ rs, t.1 = r.1 ∧ t.2.1 = r.2.2 := by
      intro rs
      induction rs with
      | nil => intro pl h; cases h
      | cons r rs ih =>
        intro pl h
        rw [items] at h
        cases h with
        | head => exact ⟨r, .head _, rfl, rfl⟩
        | tail _ h => obtain ⟨r', a, b⟩ := ih _ h; exact ⟨r', .tail _ a, b⟩
    obtain ⟨r, hr, e1, e2⟩ := hi rs 0 ht
    have o := hG.ok r hr
    have := cutE_len d t
    exact ⟨by show t.1.length < _; rw [e1]; exact o.2.1, by have := o.2.2.2; (exact (linS [_, _, _] [.q 1 (.v 0) (.v 1), .l 1 (.v 2) (.v 0), .s 1 (.v 1) (.n 4294967296)] 1 (.v 2) (.n 4294967296) rfl e2 (by assumption) this))⟩
noncomputable def RowW (r : Row) : Prop := r.1.length < 65536 ∧ r.2.1.length = 4 ∧ r.2.2 < 4294967296
theorem RowOk.w {r : Row} (h : RowOk r) : RowW r := ⟨h.2.1, h.2.2.1, h.2.2.2⟩
theorem rowW_len {pl : Nat} {r : Row} (h : RowW r) : (rowB pl r).length = 46 + r.1.length := by
  rw [rowB, List.length_append, rowH_len h.2.1]
theorem rowsW_len : ∀ {rs : List Row} (pl : Nat), (∀ r ∈ rs, RowW r) → (rowsB pl rs).length = rsize rs
  | [], _, _ => rfl
  | r :: rs, pl, h => by
    rw [rowsB, List.length_append, rowW_len (h r (.head _)), rowsW_len _ fun r' hr => h r' (.tail _ hr)]; rfl
theorem row_cut {pl : Nat} {r r' : Row} {x y : Bs} (o1 : RowW r) (o2 : RowW r') (h : rowB pl r ++ x = rowB pl r' ++ y) : r = r' ∧ x = y := by
  obtain ⟨nm, cr, s⟩ := r
  obtain ⟨nm', cr', s'⟩ := r'
  simp only [rowB, List.append_assoc] at h
  have hh := List.append_inj h (by rw [rowH_len o1.2.1, rowH_len o2.2.1])
  obtain ⟨hh, ht⟩ := hh
  simp only [rowH, List.append_assoc] at hh
  have a1 := List.append_cancel_left (List.append_cancel_left hh)
  obtain ⟨c1, a2⟩ := List.append_inj a1 (by rw [show cr.length = 4 from o1.2.1, show cr'.length = 4 from o2.2.1])
  obtain ⟨c2, a3⟩ := List.append_inj a2 rfl
  obtain ⟨_, a4⟩ := List.append_inj a3 rfl
  obtain ⟨c3, _⟩ := List.append_inj a4 rfl
  have e1 : s = s' := le4_inj o1.2.2 o2.2.2 c2
  have e2 : nm.length = nm'.length := le2_inj o1.1 o2.1 c3
  obtain ⟨e3, ht2⟩ := List.append_inj ht e2
  subst e3 e1
  have c1 : cr = cr' := c1
  subst c1
  exact ⟨rfl, ht2⟩
theorem rowB_ne {pl : Nat} {r : Row} (o : RowW r) (x : Bs) : rowB pl r ++ x ≠ [] := by
  intro h
  have := congrArg List.length h
  rw [List.length_append, rowW_len o] at this
  simp at this
theorem rowsB_uniq : ∀ (rs rs' : List Row) (pl : Nat), (∀ r ∈ rs, RowW r) → (∀ r ∈ rs', RowW r) → rowsB pl rs = rowsB pl rs' → rs = rs'
  | [], [], _, _, _, h => rfl
  | [], r :: rs, pl, _, h2, h => absurd h.symm (rowB_ne (h2 r (.head _)) _)
  | r :: rs, [], _, h1, _, h => absurd h (rowB_ne (h1 r (.head _)) _)
  | r :: rs, r' :: rs', pl, h1, h2, h => by
    obtain ⟨rfl, h⟩ := row_cut (h1 _ (.head _)) (h2 _ (.head _)) h
    rw [rowsB_uniq rs rs' _ (fun r hr => h1 r (.tail _ hr)) (fun r hr => h2 r (.tail _ hr)) h]
theorem endB_inj {a b c a' b' c' : Nat} (ha : a < 65536) (ha' : a' < 65536) (hb : b < 4294967296) (hb' : b' < 4294967296) (hc : c < 4294967296) (hc' : c' < 4294967296) (q2 : endB a b c = endB a' b' c') : a = a' ∧ b = b' ∧ c = c' := by
  simp only [endB, List.append_assoc] at q2
  have q2 := List.append_cancel_left (List.append_cancel_left (List.append_cancel_left q2))
  obtain ⟨c1, q2⟩ := List.append_inj q2 rfl
  obtain ⟨_, q2⟩ := List.append_inj q2 rfl
  obtain ⟨c2, q2⟩ := List.append_inj q2 rfl
  obtain ⟨c3, _⟩ := List.append_inj q2 rfl
  exact ⟨le2_inj ha ha' c1, le4_inj hb hb' c2, le4_inj hc hc' c3⟩
theorem Gram.len {d pre : Bs} {rs : List Row} (h : Gram d pre rs) : d.length = pre.length + rsize rs + 22 := by
  conv => lhs; rw [h.eq]
  simp only [List.length_append, endB_length, rowsB_len 0 h.ok]
theorem Gram.w {d pre : Bs} {rs : List Row} (h : Gram d pre rs) : ∀ r ∈ rs, RowW r := fun r hr => (h.ok r hr).w
theorem Gram.endd {d pre : Bs} {rs : List Row} (h : Gram d pre rs) : d.drop (d.length - 22) = endB rs.length (rsize rs) pre.length := by
  rw [h.len, Nat.add_sub_cancel]
  conv => lhs; rw [h.eq]
  rw [← rowsB_len 0 h.ok, ← List.length_append, List.drop_left]
theorem Gram.tail {F E pre : Bs} {rs : List Row} (hE : E.length = 22) (h : Gram (F ++ E) pre rs) : E = endB rs.length (rsize rs) pre.length ∧ pre ++ rowsB 0 rs = F := by
  obtain ⟨a, b⟩ := List.append_inj' h.eq (by rw [hE]; rfl)
  exact ⟨b, a.symm⟩
theorem Gram.parts {F M pre : Bs} {rs : List Row} {n sz off : Nat} (hn : n < 65536) (hl : F.length + M.length ≤ 16777216) (hF : F.length = off) (hM : M.length = sz) (h : Gram (F ++ M ++ endB n sz off) pre rs) :
    pre = F ∧ rowsB 0 rs = M ∧ rs.length = n ∧ tot rs = off := by
  obtain ⟨e1, e2⟩ := h.tail rfl
  have e3 := h.len
  simp only [List.length_append, endB_length] at e3
  obtain ⟨a, b, c⟩ := endB_inj hn h.cnt (by (exact (linS [_, _, _] [.l 1 (.a (.v 0) (.v 1)) (.n 16777216), .r 1 (.v 1) (.v 2)] 1 (.v 2) (.n 4294967296) rfl hl hM))) (by (exact (linS [_, _, _, _] [.l 1 (.a (.v 0) (.v 1)) (.n 16777216), .r 1 (.a (.a (.v 0) (.v 1)) (.n 22)) (.a (.a (.v 2) (.v 3)) (.n 22))] 1 (.v 3) (.n 4294967296) rfl hl e3))) (by (exact (linS [_, _, _] [.l 1 (.a (.v 0) (.v 1)) (.n 16777216), .r 1 (.v 0) (.v 2)] 1 (.v 2) (.n 4294967296) rfl hl hF))) (by (exact (linS [_, _, _, _] [.l 1 (.a (.v 0) (.v 1)) (.n 16777216), .r 1 (.a (.a (.v 0) (.v 1)) (.n 22)) (.a (.a (.v 2) (.v 3)) (.n 22))] 1 (.v 2) (.n 4294967296) rfl hl e3))) e1
  obtain ⟨f1, f2⟩ := List.append_inj e2 (by (exact (linE [_, _, _, _, _] [.q 1 (.v 0) (.v 1), .r 1 (.a (.a (.v 2) (.v 0)) (.n 22)) (.a (.a (.v 3) (.v 4)) (.n 22)), .q 1 (.v 1) (.v 4)] 1 (.v 3) (.v 2) rfl rfl hM e3 b)))
  exact ⟨f1, f2, a.symm, by rw [← h.tt]; (exact (linE [_, _, _, _, _, _] [.q 1 (.v 0) (.v 1), .q 1 (.v 2) (.v 3), .r 1 (.a (.a (.v 0) (.v 2)) (.n 22)) (.a (.a (.v 4) (.v 5)) (.n 22)), .q 1 (.v 3) (.v 5)] 1 (.v 4) (.v 1) rfl rfl hF hM e3 b))⟩
theorem dir_none {d : Bs} (h : ∀ pre rs, Gram d pre rs → False) : dirP d = none := by
  cases hd : dirP d with
  | none => rfl
  | some l => obtain ⟨pre, rs, g, _⟩ := gr_of_dir hd; exact (h pre rs g).elim
theorem read_none {d : Bs} (h : dirP d = none) : readP d = none := by rw [readP, h]; rfl
theorem turn_end {F : Bs} {n sz off q : Nat} {v : UInt8} (hn : n < 65536) (hl : F.length ≤ 16777216) (hF : F.length = sz + off) (hq : q < 22) (hv : (endB n sz off)[q]? ≠ some v) : dirP (F ++ (endB n sz off).set q v) = none := by
  refine dir_none fun pre rs g => hv ?_
  obtain ⟨e1, e2⟩ := g.tail (by rw [List.length_set]; rfl)
  have e3 := g.len
  simp only [List.length_append, List.length_set, endB_length] at e3
  have key : ∀ i, q ≠ i → (endB n sz off)[i]? = (endB rs.length (rsize rs) pre.length)[i]? := by
    intro i hi
    rw [← e1, List.getElem?_set_ne hi]
  have k1 : n = rs.length := by
    refine le2_inj hn g.cnt ?_
    by_cases c : q = 8 ∨ q = 9
    · have a : n.toUInt8 = rs.length.toUInt8 := Option.some.inj (key 10 (by (exact (fun z0 => (c.elim (fun y4 => (linF [_] [.r 1 (.v 0) (.n 10), .q 1 (.v 0) (.n 8)] rfl z0 y4)) (fun y4 => (linF [_] [.r 1 (.v 0) (.n 10), .q 1 (.v 0) (.n 9)] rfl z0 y4)))))))
      have b : (n / 256).toUInt8 = (rs.length / 256).toUInt8 := Option.some.inj (key 11 (by (exact (fun z0 => (c.elim (fun y4 => (linF [_] [.r 1 (.v 0) (.n 11), .q 1 (.v 0) (.n 8)] rfl z0 y4)) (fun y4 => (linF [_] [.r 1 (.v 0) (.n 11), .q 1 (.v 0) (.n 9)] rfl z0 y4)))))))
      simp only [le2, a, b]
    · have a : n.toUInt8 = rs.length.toUInt8 := Option.some.inj (key 8 (by (exact (fun z0 => ((Nat.lt_or_gt_of_ne (not_or.mp c).1).elim (fun y4 => (linF [_] [.r 1 (.v 0) (.n 8), .s 1 (.v 0) (.n 8)] rfl z0 y4)) (fun y4 => (linF [_] [.q 1 (.v 0) (.n 8), .s 1 (.n 8) (.v 0)] rfl z0 y4)))))))
      have b : (n / 256).toUInt8 = (rs.length / 256).toUInt8 := Option.some.inj (key 9 (by (exact (fun z0 => ((Nat.lt_or_gt_of_ne (not_or.mp c).1).elim (fun y4 => (linF [_] [.r 1 (.v 0) (.n 9), .s 1 (.v 0) (.n 8)] rfl z0 y4)) (fun y4 => ((Nat.lt_or_gt_of_ne (not_or.mp c).2).elim (fun y3 => (linF [_] [.r 1 (.v 0) (.n 9), .s 1 (.v 0) (.n 9)] rfl z0 y3)) (fun y3 => (linF [_] [.q 1 (.v 0) (.n 9), .s 1 (.n 9) (.v 0)] rfl z0 y3)))))))))
      simp only [le2, a, b]
  have k2 : sz = rsize rs ∧ off = pre.length := by
    by_cases c : 12 ≤ q ∧ q < 16
    · have a1 : off.toUInt8 = pre.length.toUInt8 := Option.some.inj (key 16 (by (exact (fun z0 => (linF [_] [.s 1 (.v 0) (.n 16), .r 1 (.v 0) (.n 16)] rfl c.2 z0)))))
      have a2 : (off / 256).toUInt8 = (pre.length / 256).toUInt8 := Option.some.inj (key 17 (by (exact (fun z0 => (linF [_] [.s 1 (.v 0) (.n 16), .r 1 (.v 0) (.n 17)] rfl c.2 z0)))))
      have a3 : (off / 65536).toUInt8 = (pre.length / 65536).toUInt8 := Option.some.inj (key 18 (by (exact (fun z0 => (linF [_] [.s 1 (.v 0) (.n 16), .r 1 (.v 0) (.n 18)] rfl c.2 z0)))))
      have a4 : (off / 16777216).toUInt8 = (pre.length / 16777216).toUInt8 := Option.some.inj (key 19 (by (exact (fun z0 => (linF [_] [.s 1 (.v 0) (.n 16), .r 1 (.v 0) (.n 19)] rfl c.2 z0)))))
      have := le4_inj (a := off) (b := pre.length) (by (exact (linS [_, _, _] [.l 1 (.v 0) (.n 16777216), .r 1 (.v 0) (.a (.v 1) (.v 2))] 1 (.v 2) (.n 4294967296) rfl hl hF))) (by (exact (linS [_, _, _] [.l 1 (.v 0) (.n 16777216), .r 1 (.a (.v 0) (.n 22)) (.a (.a (.v 1) (.v 2)) (.n 22))] 1 (.v 1) (.n 4294967296) rfl hl e3))) (by simp only [le4, a1, a2, a3, a4])
      (exact (And.intro (linE [_, _, _, _, _] [.r 1 (.v 0) (.a (.v 1) (.v 2)), .q 1 (.a (.v 0) (.n 22)) (.a (.a (.v 3) (.v 4)) (.n 22)), .r 1 (.v 2) (.v 3)] 1 (.v 1) (.v 4) rfl rfl hF e3 this) (linE [_, _] [.q 1 (.v 0) (.v 1)] 1 (.v 0) (.v 1) rfl rfl this)))
    · have a1 : sz.toUInt8 = (rsize rs).toUInt8 := Option.some.inj (key 12 (by (exact (fun z0 => ((Decidable.not_and_iff_or_not.mp c).elim (fun y4 => (linF [_] [.r 1 (.v 0) (.n 12), .s 1 (.v 0) (.n 12)] rfl z0 (Nat.lt_of_not_le y4))) (fun y4 => (linF [_] [.q 1 (.v 0) (.n 12), .l 1 (.n 16) (.v 0)] rfl z0 (Nat.le_of_not_lt y4))))))))
      have a2 : (sz / 256).toUInt8 = (rsize rs / 256).toUInt8 := Option.some.inj (key 13 (by (exact (fun z0 => ((Decidable.not_and_iff_or_not.mp c).elim (fun y4 => (linF [_] [.r 1 (.v 0) (.n 13), .s 1 (.v 0) (.n 12)] rfl z0 (Nat.lt_of_not_le y4))) (fun y4 => (linF [_] [.q 1 (.v 0) (.n 13), .l 1 (.n 16) (.v 0)] rfl z0 (Nat.le_of_not_lt y4))))))))
      have a3 : (sz / 65536).toUInt8 = (rsize rs / 65536).toUInt8 := Option.some.inj (key 14 (by (exact (fun z0 => ((Decidable.not_and_iff_or_not.mp c).elim (fun y4 => (linF [_] [.r 1 (.v 0) (.n 14), .s 1 (.v 0) (.n 12)] rfl z0 (Nat.lt_of_not_le y4))) (fun y4 => (linF [_] [.q 1 (.v 0) (.n 14), .l 1 (.n 16) (.v 0)] rfl z0 (Nat.le_of_not_lt y4))))))))
      have a4 : (sz / 16777216).toUInt8 = (rsize rs / 16777216).toUInt8 := Option.some.inj (key 15 (by (exact (fun z0 => ((Decidable.not_and_iff_or_not.mp c).elim (fun y4 => (linF [_] [.r 1 (.v 0) (.n 15), .s 1 (.v 0) (.n 12)] rfl z0 (Nat.lt_of_not_le y4))) (fun y4 => (linF [_] [.q 1 (.v 0) (.n 15), .l 1 (.n 16) (.v 0)] rfl z0 (Nat.le_of_not_lt y4))))))))
      have := le4_inj (a := sz) (b := rsize rs) (by (exact (linS [_, _, _] [.l 1 (.v 0) (.n 16777216), .r 1 (.v 0) (.a (.v 1) (.v 2))] 1 (.v 1) (.n 4294967296) rfl hl hF))) (by (exact (linS [_, _, _] [.l 1 (.v 0) (.n 16777216), .r 1 (.a (.v 0) (.n 22)) (.a (.a (.v 1) (.v 2)) (.n 22))] 1 (.v 2) (.n 4294967296) rfl hl e3))) (by simp only [le4, a1, a2, a3, a4])
      (exact (And.intro (linE [_, _] [.q 1 (.v 0) (.v 1)] 1 (.v 0) (.v 1) rfl rfl this) (linE [_, _, _, _, _] [.r 1 (.v 0) (.a (.v 1) (.v 2)), .q 1 (.a (.v 0) (.n 22)) (.a (.a (.v 3) (.v 4)) (.n 22)), .r 1 (.v 1) (.v 4)] 1 (.v 2) (.v 3) rfl rfl hF e3 this)))
  have e4 := e1
  rw [← k1, ← k2.1, ← k2.2] at e4
  rw [← e4, List.getElem?_set_self (by rw [endB_length]; exact hq)]
theorem end_off {d d' pre pre' : Bs} {rs rs' : List Row} (hl : d.length ≤ 16777216) (hl' : d'.length ≤ 16777216) (g : Gram d pre rs) (g' : Gram d' pre' rs') (h : d.drop (d.length - 10) = d'.drop (d'.length - 10)) : d.length = d'.length := by
  have e := g.len
  have e' := g'.len
  have a : ∀ {d pre : Bs} {rs : List Row}, Gram d pre rs → d.drop (d.length - 10) = le4 (rsize rs) ++ (le4 pre.length ++ le2 0) := by
    intro d pre rs g
    have e := g.len
    rw [show d.length - 10 = d.length - 22 + 12 by (exact (linE [_, _, _] [.q 1 (.a (.v 0) (.n 10)) (.v 1), .r 1 (.a (.v 2) (.n 22)) (.v 1)] 1 (.v 0) (.a (.v 2) (.n 12)) rfl rfl (Nat.sub_add_cancel (linL [_, _, _] [.r 1 (.v 0) (.a (.a (.v 1) (.v 2)) (.n 22))] 1 (.n 10) (.v 0) rfl e)) (Nat.sub_add_cancel (linL [_, _, _] [.r 1 (.v 0) (.a (.a (.v 1) (.v 2)) (.n 22))] 1 (.n 22) (.v 0) rfl e)))), ← List.drop_drop, g.endd]
    rfl
  rw [a g, a g'] at h
  obtain ⟨c1, h⟩ := List.append_inj h rfl
  obtain ⟨c2, _⟩ := List.append_inj h rfl
  have := le4_inj (by (exact (linS [_, _, _] [.l 1 (.v 0) (.n 16777216), .r 1 (.v 0) (.a (.a (.v 1) (.v 2)) (.n 22))] 1 (.v 2) (.n 4294967296) rfl hl e))) (by (exact (linS [_, _, _] [.l 1 (.v 0) (.n 16777216), .r 1 (.v 0) (.a (.a (.v 1) (.v 2)) (.n 22))] 1 (.v 2) (.n 4294967296) rfl hl' e'))) c1
  have := le4_inj (by (exact (linS [_, _, _] [.l 1 (.v 0) (.n 16777216), .r 1 (.v 0) (.a (.a (.v 1) (.v 2)) (.n 22))] 1 (.v 1) (.n 4294967296) rfl hl e))) (by (exact (linS [_, _, _] [.l 1 (.v 0) (.n 16777216), .r 1 (.v 0) (.a (.a (.v 1) (.v 2)) (.n 22))] 1 (.v 1) (.n 4294967296) rfl hl' e'))) c2
  (exact (linE [_, _, _, _, _, _] [.q 1 (.v 0) (.a (.a (.v 1) (.v 2)) (.n 22)), .r 1 (.v 3) (.a (.a (.v 4) (.v 5)) (.n 22)), .q 1 (.v 2) (.v 5), .q 1 (.v 1) (.v 4)] 1 (.v 0) (.v 3) rfl rfl e e' (by assumption) this))
theorem Gram.b0 {d pre : Bs} {rs : List Row} (g : Gram d pre rs) : d[d.length - 22]? = some 80 := by
  have := congrArg (fun l => l[0]?) g.endd
  rwa [List.getElem?_drop] at this
theorem Gram.b1 {d pre : Bs} {rs : List Row} (g : Gram d pre rs) : d[d.length - 21]? = some 75 := by
  have := congrArg (fun l => l[1]?) g.endd
  have e := g.len
  rwa [List.getElem?_drop, show d.length - 22 + 1 = d.length - 21 by (exact (linE [_, _, _] [.q 1 (.a (.v 0) (.n 22)) (.v 1), .r 1 (.a (.v 2) (.n 21)) (.v 1)] 1 (.a (.v 0) (.n 1)) (.v 2) rfl rfl (Nat.sub_add_cancel (linL [_, _, _] [.r 1 (.v 0) (.a (.a (.v 1) (.v 2)) (.n 22))] 1 (.n 22) (.v 0) rfl e)) (Nat.sub_add_cancel (linL [_, _, _] [.r 1 (.v 0) (.a (.a (.v 1) (.v 2)) (.n 22))] 1 (.n 21) (.v 0) rfl e))))] at this
theorem lose_dir {d pre : Bs} {rs : List Row} {p : Nat} (hl : d.length ≤ 16777216) (g : Gram d pre rs) (hp : p < d.length) : dirP (d.take p ++ d.drop (p + 1)) = none := by
  refine dir_none fun pre' rs' g' => ?_
  have e := g.len
  have n' : (d.take p ++ d.drop (p + 1)).length = d.length - 1 := by
    rw [List.length_append, List.length_take, List.length_drop]; (exact (linE [_, _, _, _, _] [.q 1 (.v 0) (.v 1), .q 1 (.a (.v 2) (.a (.v 1) (.n 1))) (.v 3), .r 1 (.a (.v 4) (.n 1)) (.v 3)] 1 (.a (.v 0) (.v 2)) (.v 4) rfl rfl (Nat.min_eq_left (linL [_, _] [.s 1 (.v 0) (.v 1)] 1 (.v 0) (.v 1) rfl hp)) (Nat.sub_add_cancel (linL [_, _] [.s 1 (.v 0) (.v 1)] 1 (.a (.v 0) (.n 1)) (.v 1) rfl hp)) (Nat.sub_add_cancel (linL [_, _, _] [.r 1 (.v 0) (.a (.a (.v 1) (.v 2)) (.n 22))] 1 (.n 1) (.v 0) rfl e))))
  have e' := g'.len
  by_cases c : p ≤ d.length - 22
  · have := end_off hl (by (exact (linL [_, _, _] [.l 1 (.v 0) (.n 16777216), .q 1 (.v 1) (.v 2), .q 1 (.a (.v 2) (.n 1)) (.v 0)] 1 (.v 1) (.n 16777216) rfl hl n' (Nat.sub_add_cancel (linL [_, _] [.s 1 (.v 0) (.v 1)] 1 (.n 1) (.v 1) rfl hp))))) g g' (by
      rw [n', List.drop_append, List.length_take, show (d.take p).drop _ = [] from List.drop_eq_nil_of_le (by rw [List.length_take]; (exact (linL [_, _, _, _, _, _] [.l 1 (.v 0) (.v 1), .q 1 (.a (.v 1) (.n 22)) (.v 2), .q 1 (.v 3) (.v 0), .r 1 (.a (.v 4) (.n 1)) (.v 2), .r 1 (.a (.v 5) (.n 10)) (.v 4)] 1 (.v 3) (.v 5) rfl c (Nat.sub_add_cancel (linL [_, _, _] [.r 1 (.v 0) (.a (.a (.v 1) (.v 2)) (.n 22))] 1 (.n 22) (.v 0) rfl e)) (Nat.min_eq_left (linL [_, _] [.s 1 (.v 0) (.v 1)] 1 (.v 0) (.v 1) rfl hp)) (Nat.sub_add_cancel (linL [_, _, _] [.r 1 (.v 0) (.a (.a (.v 1) (.v 2)) (.n 22))] 1 (.n 1) (.v 0) rfl e)) (Nat.sub_add_cancel (linL [_, _, _, _] [.r 1 (.v 0) (.a (.a (.v 1) (.v 2)) (.n 22)), .r 1 (.a (.v 3) (.n 1)) (.v 0)] 1 (.n 10) (.v 3) rfl e (Nat.sub_add_cancel (linL [_, _, _] [.r 1 (.v 0) (.a (.a (.v 1) (.v 2)) (.n 22))] 1 (.n 1) (.v 0) rfl e))))))), List.nil_append, List.drop_drop]
      congr 1; (exact (linE [_, _, _, _, _, _, _] [.q 1 (.a (.v 0) (.n 10)) (.v 1), .r 1 (.a (.v 2) (.n 1)) (.v 1), .r 1 (.a (.v 3) (.n 10)) (.v 2), .q 1 (.v 4) (.v 5), .r 1 (.a (.v 6) (.v 4)) (.v 3)] 1 (.v 0) (.a (.a (.v 5) (.n 1)) (.v 6)) rfl rfl (Nat.sub_add_cancel (linL [_, _, _] [.r 1 (.v 0) (.a (.a (.v 1) (.v 2)) (.n 22))] 1 (.n 10) (.v 0) rfl e)) (Nat.sub_add_cancel (linL [_, _] [.s 1 (.v 0) (.v 1)] 1 (.n 1) (.v 1) rfl hp)) (Nat.sub_add_cancel (linL [_, _, _, _] [.r 1 (.v 0) (.a (.a (.v 1) (.v 2)) (.n 22)), .r 1 (.a (.v 3) (.n 1)) (.v 0)] 1 (.n 10) (.v 3) rfl e (Nat.sub_add_cancel (linL [_, _] [.s 1 (.v 0) (.v 1)] 1 (.n 1) (.v 1) rfl hp)))) (Nat.min_eq_left (linL [_, _] [.s 1 (.v 0) (.v 1)] 1 (.v 0) (.v 1) rfl hp)) (Nat.sub_add_cancel (linL [_, _, _, _, _, _] [.l 1 (.v 0) (.v 1), .q 1 (.a (.v 1) (.n 22)) (.v 2), .r 1 (.a (.v 3) (.n 1)) (.v 2), .r 1 (.a (.v 4) (.n 10)) (.v 3), .q 1 (.v 5) (.v 0)] 1 (.v 5) (.v 4) rfl c (Nat.sub_add_cancel (linL [_, _, _] [.r 1 (.v 0) (.a (.a (.v 1) (.v 2)) (.n 22))] 1 (.n 22) (.v 0) rfl e)) (Nat.sub_add_cancel (linL [_, _] [.s 1 (.v 0) (.v 1)] 1 (.n 1) (.v 1) rfl hp)) (Nat.sub_add_cancel (linL [_, _, _, _] [.r 1 (.v 0) (.a (.a (.v 1) (.v 2)) (.n 22)), .r 1 (.a (.v 3) (.n 1)) (.v 0)] 1 (.n 10) (.v 3) rfl e (Nat.sub_add_cancel (linL [_, _] [.s 1 (.v 0) (.v 1)] 1 (.n 1) (.v 1) rfl hp)))) (Nat.min_eq_left (linL [_, _] [.s 1 (.v 0) (.v 1)] 1 (.v 0) (.v 1) rfl hp)))))))
    (exact (linF [_, _, _] [.q 1 (.v 0) (.v 1), .q 1 (.v 2) (.v 0), .q 1 (.a (.v 1) (.n 1)) (.v 2)] rfl n' this (Nat.sub_add_cancel (linL [_, _, _] [.r 1 (.v 0) (.a (.a (.v 1) (.v 2)) (.n 22))] 1 (.n 1) (.v 0) rfl e))))
  · have h1 := g'.b1
    have h0 := g.b0
    rw [n', List.getElem?_append_left (by rw [List.length_take]; (exact (linS [_, _, _, _, _, _] [.s 1 (.v 0) (.v 1), .r 1 (.a (.v 0) (.n 22)) (.v 2), .q 1 (.a (.v 3) (.n 1)) (.v 2), .q 1 (.a (.v 4) (.n 21)) (.v 3), .r 1 (.v 5) (.v 1)] 1 (.v 4) (.v 5) rfl (Nat.lt_of_not_le c) (Nat.sub_add_cancel (linL [_, _, _] [.r 1 (.v 0) (.a (.a (.v 1) (.v 2)) (.n 22))] 1 (.n 22) (.v 0) rfl e)) (Nat.sub_add_cancel (linL [_, _] [.s 1 (.v 0) (.v 1)] 1 (.n 1) (.v 1) rfl hp)) (Nat.sub_add_cancel (linL [_, _, _, _] [.r 1 (.v 0) (.a (.a (.v 1) (.v 2)) (.n 22)), .r 1 (.a (.v 3) (.n 1)) (.v 0)] 1 (.n 21) (.v 3) rfl e (Nat.sub_add_cancel (linL [_, _] [.s 1 (.v 0) (.v 1)] 1 (.n 1) (.v 1) rfl hp)))) (Nat.min_eq_left (linL [_, _] [.s 1 (.v 0) (.v 1)] 1 (.v 0) (.v 1) rfl hp))))), List.getElem?_take_of_lt (by (exact (linS [_, _, _, _, _] [.s 1 (.v 0) (.v 1), .r 1 (.a (.v 0) (.n 22)) (.v 2), .q 1 (.a (.v 3) (.n 1)) (.v 2), .q 1 (.a (.v 4) (.n 21)) (.v 3)] 1 (.v 4) (.v 1) rfl (Nat.lt_of_not_le c) (Nat.sub_add_cancel (linL [_, _, _] [.r 1 (.v 0) (.a (.a (.v 1) (.v 2)) (.n 22))] 1 (.n 22) (.v 0) rfl e)) (Nat.sub_add_cancel (linL [_, _, _] [.r 1 (.v 0) (.a (.a (.v 1) (.v 2)) (.n 22))] 1 (.n 1) (.v 0) rfl e)) (Nat.sub_add_cancel (linL [_, _, _, _] [.r 1 (.v 0) (.a (.a (.v 1) (.v 2)) (.n 22)), .r 1 (.a (.v 3) (.n 1)) (.v 0)] 1 (.n 21) (.v 3) rfl e (Nat.sub_add_cancel (linL [_, _, _] [.r 1 (.v 0) (.a (.a (.v 1) (.v 2)) (.n 22))] 1 (.n 1) (.v 0) rfl e))))))), show d.length - 1 - 21 = d.length - 22 by (exact (linE [_, _, _, _] [.q 1 (.a (.v 0) (.n 1)) (.v 1), .q 1 (.a (.v 2) (.n 21)) (.v 0), .r 1 (.a (.v 3) (.n 22)) (.v 1)] 1 (.v 2) (.v 3) rfl rfl (Nat.sub_add_cancel (linL [_, _] [.s 1 (.v 0) (.v 1)] 1 (.n 1) (.v 1) rfl hp)) (Nat.sub_add_cancel (linL [_, _, _, _] [.r 1 (.v 0) (.a (.a (.v 1) (.v 2)) (.n 22)), .r 1 (.a (.v 3) (.n 1)) (.v 0)] 1 (.n 21) (.v 3) rfl e (Nat.sub_add_cancel (linL [_, _] [.s 1 (.v 0) (.v 1)] 1 (.n 1) (.v 1) rfl hp)))) (Nat.sub_add_cancel (linL [_, _, _] [.r 1 (.v 0) (.a (.a (.v 1) (.v 2)) (.n 22))] 1 (.n 22) (.v 0) rfl e)))), h0] at h1
    exact absurd h1 (by decide)
theorem add_dir {d pre : Bs} {rs : List Row} {p : Nat} {v : UInt8} (hl : d.length + 1 ≤ 16777216) (g : Gram d pre rs) (hp : p < d.length) : dirP (d.take p ++ v :: d.drop p) = none := by
  refine dir_none fun pre' rs' g' => ?_
  have e := g.len
  have n' : (d.take p ++ v :: d.drop p).length = d.length + 1 := by
    rw [List.length_append, List.length_cons, List.length_take, List.length_drop]; (exact (linE [_, _, _, _] [.q 1 (.v 0) (.v 1), .q 1 (.a (.v 2) (.v 1)) (.v 3)] 1 (.a (.v 0) (.a (.v 2) (.n 1))) (.a (.v 3) (.n 1)) rfl rfl (Nat.min_eq_left (linL [_, _] [.s 1 (.v 0) (.v 1)] 1 (.v 0) (.v 1) rfl hp)) (Nat.sub_add_cancel (linL [_, _] [.s 1 (.v 0) (.v 1)] 1 (.v 0) (.v 1) rfl hp))))
  have e' := g'.len
  by_cases c : p ≤ d.length - 21
  · have := end_off (by (exact (linL [_] [.l 1 (.a (.v 0) (.n 1)) (.n 16777216)] 1 (.v 0) (.n 16777216) rfl hl))) (by (exact (linL [_, _] [.l 1 (.a (.v 0) (.n 1)) (.n 16777216), .q 1 (.v 1) (.a (.v 0) (.n 1))] 1 (.v 1) (.n 16777216) rfl hl n'))) g g' (by
      rw [n', List.drop_append, List.length_take, show (d.take p).drop _ = [] from List.drop_eq_nil_of_le (by rw [List.length_take]; (exact (linL [_, _, _, _, _] [.l 1 (.v 0) (.v 1), .q 1 (.a (.v 1) (.n 21)) (.v 2), .q 1 (.v 3) (.v 0), .r 1 (.a (.v 4) (.n 10)) (.a (.v 2) (.n 1))] 1 (.v 3) (.v 4) rfl c (Nat.sub_add_cancel (linL [_, _, _] [.r 1 (.v 0) (.a (.a (.v 1) (.v 2)) (.n 22))] 1 (.n 21) (.v 0) rfl e)) (Nat.min_eq_left (linL [_, _] [.s 1 (.v 0) (.v 1)] 1 (.v 0) (.v 1) rfl hp)) (Nat.sub_add_cancel (linL [_, _, _] [.r 1 (.v 0) (.a (.a (.v 1) (.v 2)) (.n 22))] 1 (.n 10) (.a (.v 0) (.n 1)) rfl e))))), List.nil_append,
        show d.length + 1 - 10 - min p d.length = (d.length - 10 - p) + 1 by (exact (linE [_, _, _, _, _, _, _] [.q 1 (.a (.v 0) (.n 10)) (.a (.v 1) (.n 1)), .r 1 (.v 2) (.v 3), .q 1 (.a (.v 4) (.v 2)) (.v 0), .r 1 (.a (.v 5) (.n 10)) (.v 1), .r 1 (.a (.v 6) (.v 3)) (.v 5)] 1 (.v 4) (.a (.v 6) (.n 1)) rfl rfl (Nat.sub_add_cancel (linL [_, _, _] [.r 1 (.v 0) (.a (.a (.v 1) (.v 2)) (.n 22))] 1 (.n 10) (.a (.v 0) (.n 1)) rfl e)) (Nat.min_eq_left (linL [_, _] [.s 1 (.v 0) (.v 1)] 1 (.v 0) (.v 1) rfl hp)) (Nat.sub_add_cancel (linL [_, _, _, _, _] [.l 1 (.v 0) (.v 1), .q 1 (.a (.v 1) (.n 21)) (.v 2), .r 1 (.a (.v 3) (.n 10)) (.a (.v 2) (.n 1)), .q 1 (.v 4) (.v 0)] 1 (.v 4) (.v 3) rfl c (Nat.sub_add_cancel (linL [_, _, _] [.r 1 (.v 0) (.a (.a (.v 1) (.v 2)) (.n 22))] 1 (.n 21) (.v 0) rfl e)) (Nat.sub_add_cancel (linL [_, _, _] [.r 1 (.v 0) (.a (.a (.v 1) (.v 2)) (.n 22))] 1 (.n 10) (.a (.v 0) (.n 1)) rfl e)) (Nat.min_eq_left (linL [_, _] [.s 1 (.v 0) (.v 1)] 1 (.v 0) (.v 1) rfl hp)))) (Nat.sub_add_cancel (linL [_, _, _] [.r 1 (.v 0) (.a (.a (.v 1) (.v 2)) (.n 22))] 1 (.n 10) (.v 0) rfl e)) (Nat.sub_add_cancel (linL [_, _, _, _] [.l 1 (.v 0) (.v 1), .q 1 (.a (.v 1) (.n 21)) (.v 2), .r 1 (.a (.v 3) (.n 10)) (.v 2)] 1 (.v 0) (.v 3) rfl c (Nat.sub_add_cancel (linL [_, _, _] [.r 1 (.v 0) (.a (.a (.v 1) (.v 2)) (.n 22))] 1 (.n 21) (.v 0) rfl e)) (Nat.sub_add_cancel (linL [_, _, _] [.r 1 (.v 0) (.a (.a (.v 1) (.v 2)) (.n 22))] 1 (.n 10) (.v 0) rfl e)))))), List.drop_succ_cons, List.drop_drop]
      congr 1; (exact (linE [_, _, _] [.r 1 (.a (.v 0) (.v 1)) (.v 2)] 1 (.v 2) (.a (.v 1) (.v 0)) rfl rfl (Nat.sub_add_cancel (linL [_, _, _, _] [.l 1 (.v 0) (.v 1), .q 1 (.a (.v 1) (.n 21)) (.v 2), .r 1 (.a (.v 3) (.n 10)) (.v 2)] 1 (.v 0) (.v 3) rfl c (Nat.sub_add_cancel (linL [_, _, _] [.r 1 (.v 0) (.a (.a (.v 1) (.v 2)) (.n 22))] 1 (.n 21) (.v 0) rfl e)) (Nat.sub_add_cancel (linL [_, _, _] [.r 1 (.v 0) (.a (.a (.v 1) (.v 2)) (.n 22))] 1 (.n 10) (.v 0) rfl e)))))))
    (exact (linF [_, _] [.r 1 (.v 0) (.a (.v 1) (.n 1)), .r 1 (.v 1) (.v 0)] rfl n' this))
  · have h1 := g'.b0
    have h0 := g.b1
    rw [n', List.getElem?_append_left (by rw [List.length_take]; (exact (linS [_, _, _, _, _] [.s 1 (.v 0) (.v 1), .r 1 (.a (.v 0) (.n 21)) (.v 2), .q 1 (.a (.v 3) (.n 22)) (.a (.v 2) (.n 1)), .r 1 (.v 4) (.v 1)] 1 (.v 3) (.v 4) rfl (Nat.lt_of_not_le c) (Nat.sub_add_cancel (linL [_, _, _] [.r 1 (.v 0) (.a (.a (.v 1) (.v 2)) (.n 22))] 1 (.n 21) (.v 0) rfl e)) (Nat.sub_add_cancel (linL [_, _, _] [.r 1 (.v 0) (.a (.a (.v 1) (.v 2)) (.n 22))] 1 (.n 22) (.a (.v 0) (.n 1)) rfl e)) (Nat.min_eq_left (linL [_, _] [.s 1 (.v 0) (.v 1)] 1 (.v 0) (.v 1) rfl hp))))), List.getElem?_take_of_lt (by (exact (linS [_, _, _, _] [.s 1 (.v 0) (.v 1), .r 1 (.a (.v 0) (.n 21)) (.v 2), .q 1 (.a (.v 3) (.n 22)) (.a (.v 2) (.n 1))] 1 (.v 3) (.v 1) rfl (Nat.lt_of_not_le c) (Nat.sub_add_cancel (linL [_, _, _] [.r 1 (.v 0) (.a (.a (.v 1) (.v 2)) (.n 22))] 1 (.n 21) (.v 0) rfl e)) (Nat.sub_add_cancel (linL [_, _, _] [.r 1 (.v 0) (.a (.a (.v 1) (.v 2)) (.n 22))] 1 (.n 22) (.a (.v 0) (.n 1)) rfl e))))), show d.length + 1 - 22 = d.length - 21 by (exact (linE [_, _, _] [.q 1 (.a (.v 0) (.n 22)) (.a (.v 1) (.n 1)), .r 1 (.a (.v 2) (.n 21)) (.v 1)] 1 (.v 0) (.v 2) rfl rfl (Nat.sub_add_cancel (linL [_, _, _] [.r 1 (.v 0) (.a (.a (.v 1) (.v 2)) (.n 22))] 1 (.n 22) (.a (.v 0) (.n 1)) rfl e)) (Nat.sub_add_cancel (linL [_, _, _] [.r 1 (.v 0) (.a (.a (.v 1) (.v 2)) (.n 22))] 1 (.n 21) (.v 0) rfl e)))), h0] at h1
    exact absurd h1 (by decide)
theorem locH_inj {e e' : Ent} {x y : Bs} (h1 : e.1.length < 65536) (h2 : e.2.length < 4294967296) (h1' : e'.1.length < 65536) (h2' : e'.2.length < 4294967296) (h : locB e ++ x = locB e' ++ y) : e = e' ∧ x = y := by
  rw [locB_eq, locB_eq, List.append_assoc, List.append_assoc, List.append_assoc, List.append_assoc] at h
  obtain ⟨a, b⟩ := List.append_inj h rfl
  simp only [locH, midB, List.append_assoc] at a
  obtain ⟨_, a⟩ := List.append_inj a rfl
  obtain ⟨_, a⟩ := List.append_inj a rfl
  obtain ⟨_, a⟩ := List.append_inj a rfl
  obtain ⟨_, a⟩ := List.append_inj a rfl
  obtain ⟨_, a⟩ := List.append_inj a rfl
  obtain ⟨_, a⟩ := List.append_inj a rfl
  obtain ⟨_, a⟩ := List.append_inj a rfl
  obtain ⟨c1, a⟩ := List.append_inj a rfl
  obtain ⟨_, a⟩ := List.append_inj a rfl
  obtain ⟨c2, _⟩ := List.append_inj a rfl
  have c1 := le4_inj h2 h2' c1
  have c2 := le2_inj h1 h1' c2
  obtain ⟨k1, b⟩ := List.append_inj b c2
  obtain ⟨k2, b⟩ := List.append_inj b c1
  exact ⟨Prod.ext k1 k2, b⟩
theorem locB_ne (e : Ent) (x : Bs) : locB e ++ x ≠ [] := by
  intro h
  have := congrArg List.length h
  simp [locB_length, room] at this
theorem front_inj : ∀ (es es' : List Ent), (∀ e ∈ es, e.1.length < 65536 ∧ e.2.length < 4294967296) → (∀ e ∈ es', e.1.length < 65536 ∧ e.2.length < 4294967296) → front es = front es' → es = es'
  | [], [], _, _, _ => rfl
  | [], e :: es, _, _, h => absurd h.symm (locB_ne e _)
  | e :: es, [], _, _, h => absurd h (locB_ne e _)
  | e :: es, e' :: es', h1, h2, h => by
    obtain ⟨rfl, h3⟩ := locH_inj (h1 e (.head _)).1 (h1 e (.head _)).2 (h2 e' (.head _)).1 (h2 e' (.head _)).2 h
    rw [front_inj es es' (fun r hr => h1 r (.tail _ hr)) (fun r hr => h2 r (.tail _ hr)) h3]
theorem read_same {es : List Ent} {d pre : Bs} {rs : List Row} (hl : d.length ≤ 16777216) (hf : Fit es) (g : Gram d (front es) rs) (hne : d ≠ arc es) : readP d = none := by
  cases hr : readP d with
  | none => rfl
  | some es' =>
    obtain ⟨h1, h2, h3⟩ := read_some hl hr
    have g' := arc_gram h2 h1
    rw [h3] at g'
    have := front_inj es es' hf.2 h2.2 (gram_inj hl g g').1
    subst this
    exact absurd h3.symm hne
theorem locH_row {e e' : Ent} (h : rowOf e = rowOf e') : locH e = locH e' := by
  have h1 : e.1 = e'.1 := congrArg (·.1) h
  have h2 : le4 (crc e.2) = le4 (crc e'.2) := congrArg (fun t => t.2.1) h
  have h3 : e.2.length = e'.2.length := congrArg (fun t => t.2.2) h
  simp only [locH, midB, h1, h2, h3]
theorem set_cut {b : UInt8} : ∀ {l l' : Bs} {p : Nat}, l' = l.set p b → p < l.length → ∃ a x c, l = a ++ x :: c ∧ l' = a ++ b :: c ∧ l[p]? = some x ∧ a.length = p := by
  intro l l' p h hp
  refine ⟨l.take p, l[p], l.drop (p + 1), ?_, ?_, List.getElem?_eq_getElem hp, ?_⟩
  · rw [← List.drop_eq_getElem_cons, List.take_append_drop]
  · rw [h, List.set_eq_take_append_cons_drop, if_pos hp]
  · rw [List.length_take]; (exact (linE [_, _] [.q 1 (.v 0) (.v 1)] 1 (.v 0) (.v 1) rfl rfl (Nat.min_eq_left (linL [_, _] [.s 1 (.v 0) (.v 1)] 1 (.v 0) (.v 1) rfl hp))))
theorem front_turn {v : UInt8} : ∀ (es es' : List Ent) (p : Nat), es'.map rowOf = es.map rowOf → p < (front es).length → (front es)[p]? ≠ some v → front es' = (front es).set p v → False
  | [], _, p, _, hp, _, _ => by simp [front] at hp
  | e :: es, [], p, h, _, _, _ => by cases h
  | e :: es, e' :: es', p, h, hp, hv, hf => by
    rw [List.map_cons, List.map_cons] at h
    obtain ⟨h0, h⟩ := List.cons.inj h
    have h3 : e'.2.length = e.2.length := congrArg (fun t => t.2.2) h0
    have h1 : e'.1 = e.1 := congrArg (·.1) h0
    have hL : (locB e').length = (locB e).length := by simp only [locB_length, room, h1, h3]
    rw [front_cons', front_cons', List.set_append] at hf
    rw [front_cons', List.getElem?_append] at hv
    rw [front_cons', List.length_append] at hp
    by_cases c : p < (locB e).length
    · rw [if_pos c] at hf hv
      obtain ⟨k1, k2⟩ := List.append_inj hf (by rw [List.length_set, hL])
      rw [locB_eq, locB_eq, List.append_assoc, List.append_assoc, locH_row h0, h1, ← List.append_assoc, ← List.append_assoc, List.set_append] at k1
      rw [locB_eq, List.getElem?_append] at hv
      by_cases c2 : p < (locH e ++ e.1).length
      · rw [if_pos c2] at k1 hv
        obtain ⟨k3, _⟩ := List.append_inj k1 (by rw [List.length_set])
        refine hv ?_
        rw [k3, List.getElem?_set_self c2]
      · rw [if_neg c2] at k1 hv
        obtain ⟨_, k3⟩ := List.append_inj k1 rfl
        rw [locB_eq, List.length_append] at c
        obtain ⟨a, x, cc, q1, q2, q3, _⟩ := set_cut k3 (by (exact (linS [_, _, _, _] [.s 1 (.v 0) (.a (.v 1) (.v 2)), .q 1 (.a (.v 3) (.v 1)) (.v 0)] 1 (.v 3) (.v 2) rfl c (Nat.sub_add_cancel (linL [_, _] [.l 1 (.v 0) (.v 1)] 1 (.v 0) (.v 1) rfl (Nat.le_of_not_lt c2))))))
        have hc : le4 (crc e'.2) = le4 (crc e.2) := congrArg (fun t => t.2.1) h0
        have hc := le4_inj (crc_lt _) (crc_lt _) hc
        rw [q1, q2] at hc
        have := crc_byte hc
        subst this
        exact hv q3
    · rw [if_neg c] at hf hv
      obtain ⟨_, k2⟩ := List.append_inj hf hL
      exact front_turn es es' (p - (locB e).length) h (by (exact (linS [_, _, _, _] [.s 1 (.v 0) (.a (.v 1) (.v 2)), .q 1 (.a (.v 3) (.v 1)) (.v 0)] 1 (.v 3) (.v 2) rfl hp (Nat.sub_add_cancel (linL [_, _] [.l 1 (.v 0) (.v 1)] 1 (.v 0) (.v 1) rfl (Nat.le_of_not_lt c)))))) hv k2
theorem turn_front {es : List Ent} {p : Nat} {v : UInt8} (hf : Fit es) (hg : good es = true) (hl : (arc es).length ≤ 16777216) (hp : p < (front es).length) (hv : (front es)[p]? ≠ some v) :
    readP ((front es).set p v ++ middle 0 es ++ endB es.length (middle 0 es).length (front es).length) = none ∧ (dirP ((front es).set p v ++ middle 0 es ++ endB es.length (middle 0 es).length (front es).length)).map (fun l => l.map (·.1)) = some (es.map (·.1)) := by
  have g := arc_gram hf hg
  have hlen := g.len
  have g' : Gram ((front es).set p v ++ middle 0 es ++ endB es.length (middle 0 es).length (front es).length) ((front es).set p v) (es.map rowOf) := by
    refine ⟨?_, by rw [List.length_set]; exact g.tt, g.ok, g.fr, g.cnt⟩
    rw [middle_rows, rowsB_len 0 g.ok, List.length_map, List.length_set]
  have hl' := g'.len
  rw [List.length_set] at hl'
  constructor
  · cases hr : readP _ with
    | none => rfl
    | some es' =>
      obtain ⟨h1, h2, h3⟩ := read_some (by (exact (linL [_, _, _, _] [.l 1 (.v 0) (.n 16777216), .r 1 (.v 0) (.a (.a (.v 1) (.v 2)) (.n 22)), .q 1 (.v 3) (.a (.a (.v 1) (.v 2)) (.n 22))] 1 (.v 3) (.n 16777216) rfl hl hlen hl'))) hr
      have g2 := arc_gram h2 h1
      rw [h3] at g2
      obtain ⟨k1, k2⟩ := gram_inj (by (exact (linL [_, _, _, _] [.l 1 (.v 0) (.n 16777216), .r 1 (.v 0) (.a (.a (.v 1) (.v 2)) (.n 22)), .q 1 (.v 3) (.a (.a (.v 1) (.v 2)) (.n 22))] 1 (.v 3) (.n 16777216) rfl hl hlen hl'))) g' g2
      exact (front_turn es es' p k2.symm hp hv k1.symm).elim
  · rw [dir_of_gr (by (exact (linL [_, _, _, _] [.l 1 (.v 0) (.n 16777216), .r 1 (.v 0) (.a (.a (.v 1) (.v 2)) (.n 22)), .q 1 (.v 3) (.a (.a (.v 1) (.v 2)) (.n 22))] 1 (.v 3) (.n 16777216) rfl hl hlen hl'))) g', Option.map_some, items_names, List.map_map]; rfl
noncomputable def pk : Bs := [80, 75, 1, 2, 20]
noncomputable def occ : Bs → Nat
  | [] => 0
  | b :: t => (if pk <+: (b :: t) then 1 else 0) + occ t
theorem occ_skip {b : UInt8} {t : Bs} (h : ¬ pk <+: (b :: t)) : occ (b :: t) = occ t := by rw [occ, if_neg h, Nat.zero_add]
theorem pk_iff {b : UInt8} {t : Bs} : pk <+: (b :: t) ↔ ∃ u, b :: t = 80 :: 75 :: 1 :: 2 :: 20 :: u := by
  constructor
  · rintro ⟨u, hu⟩; exact ⟨u, hu.symm⟩
  · rintro ⟨u, hu⟩; exact ⟨u, hu.symm⟩
theorem occ0 {b : UInt8} {t : Bs} (h : b ≠ 80) : occ (b :: t) = occ t := occ_skip fun q => by
  obtain ⟨u, hu⟩ := pk_iff.mp q
  injection hu with a _
  exact h a
theorem occ1 {b c : UInt8} {t : Bs} (h : c ≠ 75) : occ (b :: c :: t) = occ (c :: t) := occ_skip fun q => by
  obtain ⟨u, hu⟩ := pk_iff.mp q
  injection hu with _ hu
  injection hu with a _
  exact h a
theorem occ3 {b c d e : UInt8} {t : Bs} (h : e ≠ 2) : occ (b :: c :: d :: e :: t) = occ (c :: d :: e :: t) := occ_skip fun q => by
  obtain ⟨u, hu⟩ := pk_iff.mp q
  injection hu with _ hu
  injection hu with _ hu
  injection hu with _ hu
  injection hu with a _
  exact h a
theorem occ4 {b c d e f : UInt8} {t : Bs} (h : f ≠ 20) : occ (b :: c :: d :: e :: f :: t) = occ (c :: d :: e :: f :: t) := occ_skip fun q => by
  obtain ⟨u, hu⟩ := pk_iff.mp q
  injection hu with _ hu
  injection hu with _ hu
  injection hu with _ hu
  injection hu with _ hu
  injection hu with a _
  exact h a
theorem occ_app : ∀ (x y : Bs), occ y ≤ occ (x ++ y)
  | [], y => Nat.le_refl _
  | b :: x, y => by
    rw [List.cons_append, occ]
    have := occ_app x y
    (exact (linL [_, _, _] [.l 1 (.v 0) (.v 1)] 1 (.v 0) (.a (.v 2) (.v 1)) rfl this))
theorem occ_start {x y : Bs} (hx : x ≠ []) (h : pk <+: (x ++ y)) : 1 + occ y ≤ occ (x ++ y) := by
  cases x with
  | nil => exact absurd rfl hx
  | cons b x =>
    rw [List.cons_append] at h ⊢
    rw [occ, if_pos h]
    have := occ_app x y
    (exact (linL [_, _] [.l 1 (.v 0) (.v 1)] 1 (.a (.n 1) (.v 0)) (.a (.n 1) (.v 1)) rfl this))
theorem rows_pk (pl : Nat) (r : Row) (x : Bs) : pk <+: (rowB pl r ++ x) := ⟨(rowB pl r ++ x).drop 5, rfl⟩
theorem occ_rows_ge : ∀ (rs : List Row) (pl : Nat), rs.length ≤ occ (rowsB pl rs)
  | [], _ => Nat.zero_le _
  | r :: rs, pl => by
    have h := occ_start (x := rowB pl r) (y := rowsB (pl + rroom r) rs) (by simp [rowB, rowH, fixB]) (rows_pk pl r _)
    have := occ_rows_ge rs (pl + rroom r)
    rw [rowsB, List.length_cons]
    (exact (linL [_, _, _] [.l 1 (.a (.n 1) (.v 0)) (.v 1), .l 1 (.v 2) (.v 0)] 1 (.a (.v 2) (.n 1)) (.v 1) rfl h this))
noncomputable def NoPK : Bs → Prop
  | 80 :: 75 :: 1 :: _ => False
  | [] => True
  | _ :: t => NoPK t
theorem NoPK.tail {b : UInt8} {t : Bs} (h : NoPK (b :: t)) : NoPK t := by
  unfold NoPK at h
  split at h
  · exact h.elim
  · rename_i q; cases q
  · rename_i q; injection q with _ q; subst q; exact h
theorem occ_no : ∀ (x y : Bs), NoPK x → (y = [] ∨ ∃ u, y = 80 :: 75 :: 1 :: u) → occ (x ++ y) = occ y
  | [], _, _, _ => rfl
  | b :: x, y, h, hy => by
    rw [List.cons_append, occ_skip, occ_no x y h.tail hy]
    intro q
    obtain ⟨u, hu⟩ := pk_iff.mp q
    match x, h, hu with
    | [], h, hu =>
      rcases hy with rfl | ⟨w, rfl⟩
      · simp at hu
      · simp at hu
    | [c], h, hu =>
      rcases hy with rfl | ⟨w, rfl⟩
      · simp at hu
      · simp at hu
    | c :: d :: x, h, hu =>
      simp only [List.cons_append, List.cons.injEq] at hu
      obtain ⟨rfl, rfl, rfl, _⟩ := hu
      exact h
noncomputable def Clean : Nat → List Row → Prop
  | _, [] => True
  | pl, r :: rs => (r.1.length < 19200 ∧ r.2.2 < 20 ∧ pl < 19200 ∧ NoPK r.1) ∧ Clean (pl + rroom r) rs
theorem rows_head (pl : Nat) (rs : List Row) : rowsB pl rs = [] ∨ ∃ u, rowsB pl rs = 80 :: 75 :: 1 :: u := by
  cases rs with
  | nil => exact .inl rfl
  | cons r rs => exact .inr ⟨_, rfl⟩
theorem u8_ne {n k : Nat} (h : n % 256 ≠ k % 256) : n.toUInt8 ≠ k.toUInt8 := by
  intro q
  have := congrArg UInt8.toNat q
  simp at this
  exact h this
theorem occ_head {pl : Nat} {r : Row} (x : Bs) (h4 : r.2.1.length = 4) (hL : r.1.length < 19200) (hs : r.2.2 < 20) (hp : pl < 19200) : occ (rowH pl r ++ x) = 1 + occ x := by
  obtain ⟨nm, cr, s⟩ := r
  obtain ⟨c0, c1, c2, c3, rfl⟩ := four h4
  simp only at hL hs
  have hz : ∀ n : Nat, n < 256 → (n / 256).toUInt8 = 0 := fun n h => by rw [Nat.div_eq_of_lt h]; rfl
  have s1 : (s / 256).toUInt8 = 0 := hz s (by (exact (linS [_] [.s 1 (.v 0) (.n 20)] 1 (.v 0) (.n 256) rfl hs)))
  have s2 : (s / 65536).toUInt8 = 0 := by rw [Nat.div_eq_of_lt (by (exact (linS [_] [.s 1 (.v 0) (.n 20)] 1 (.v 0) (.n 65536) rfl hs)))]; rfl
  have s3 : (s / 16777216).toUInt8 = 0 := by rw [Nat.div_eq_of_lt (by (exact (linS [_] [.s 1 (.v 0) (.n 20)] 1 (.v 0) (.n 16777216) rfl hs)))]; rfl
  have p2 : (pl / 65536).toUInt8 = 0 := by rw [Nat.div_eq_of_lt (by (exact (linS [_] [.s 1 (.v 0) (.n 19200)] 1 (.v 0) (.n 65536) rfl hp)))]; rfl
  have p3 : (pl / 16777216).toUInt8 = 0 := by rw [Nat.div_eq_of_lt (by (exact (linS [_] [.s 1 (.v 0) (.n 19200)] 1 (.v 0) (.n 16777216) rfl hp)))]; rfl
  have n20 : s.toUInt8 ≠ 20 := u8_ne (k := 20) (by (exact (fun z0 => (linF [_, _, _] [.s 1 (.v 0) (.n 20), .r 1 (.v 1) (.v 2), .q 1 (.v 1) (.v 0), .r 1 (.v 2) (.n 20)] rfl hs z0 (Nat.mod_eq_of_lt (linS [_] [.s 1 (.v 0) (.n 20)] 1 (.v 0) (.n 256) rfl hs)) (Nat.mod_eq_of_lt (linS [] [] 1 (.n 20) (.n 256) rfl))))))
  have n75 : s.toUInt8 ≠ 75 := u8_ne (k := 75) (by (exact (fun z0 => (linF [_, _, _] [.s 1 (.v 0) (.n 20), .r 1 (.v 1) (.v 2), .q 1 (.v 1) (.v 0), .r 1 (.v 2) (.n 75)] rfl hs z0 (Nat.mod_eq_of_lt (linS [_] [.s 1 (.v 0) (.n 20)] 1 (.v 0) (.n 256) rfl hs)) (Nat.mod_eq_of_lt (linS [] [] 1 (.n 75) (.n 256) rfl))))))
  have n80 : s.toUInt8 ≠ 80 := u8_ne (k := 80) (by (exact (fun z0 => (linF [_, _, _] [.s 1 (.v 0) (.n 20), .r 1 (.v 1) (.v 2), .q 1 (.v 1) (.v 0), .r 1 (.v 2) (.n 80)] rfl hs z0 (Nat.mod_eq_of_lt (linS [_] [.s 1 (.v 0) (.n 20)] 1 (.v 0) (.n 256) rfl hs)) (Nat.mod_eq_of_lt (linS [] [] 1 (.n 80) (.n 256) rfl))))))
  have l75 : (nm.length / 256).toUInt8 ≠ 75 := u8_ne (k := 75) (by (exact (fun z0 => (linF [_, _, _] [.r 1 (.v 0) (.v 1), .q 1 (.v 0) (.v 2), .r 1 (.v 1) (.n 75), .q 1 (.v 2) (.n 0)] rfl z0 (Nat.mod_eq_of_lt (linS [_, _, _] [.s 1 (.v 0) (.n 19200), .q 1 (.a (.m 256 (.v 1)) (.v 2)) (.v 0)] 256 (.v 1) (.n 256) rfl hL (Nat.div_add_mod _ _))) (Nat.mod_eq_of_lt (linS [] [] 1 (.n 75) (.n 256) rfl)) (Nat.div_eq_of_lt (linS [_, _] [.s 1 (.v 0) (.n 256), .r 1 (.v 0) (.v 1)] 1 (.v 1) (.n 256) rfl (Nat.mod_lt _ (by decide)) (Nat.mod_eq_of_lt (linS [_, _, _, _, _] [.s 1 (.v 0) (.n 19200), .q 1 (.a (.m 256 (.v 1)) (.v 2)) (.v 0), .r 256 (.v 3) (.v 4), .q 256 (.v 3) (.v 1), .r 256 (.v 4) (.n 75)] 0 (.v 0) (.n 256) rfl hL (Nat.div_add_mod _ _) z0 (Nat.mod_eq_of_lt (linS [_, _, _] [.s 1 (.v 0) (.n 19200), .q 1 (.a (.m 256 (.v 1)) (.v 2)) (.v 0)] 256 (.v 1) (.n 256) rfl hL (Nat.div_add_mod _ _))) (Nat.mod_eq_of_lt (linS [] [] 1 (.n 75) (.n 256) rfl))))))))))
  have l80 : (nm.length / 256).toUInt8 ≠ 80 := u8_ne (k := 80) (by (exact (fun z0 => (linF [_, _, _] [.r 1 (.v 0) (.v 1), .q 1 (.v 0) (.v 2), .r 1 (.v 1) (.n 80), .q 1 (.v 2) (.n 0)] rfl z0 (Nat.mod_eq_of_lt (linS [_, _, _] [.s 1 (.v 0) (.n 19200), .q 1 (.a (.m 256 (.v 1)) (.v 2)) (.v 0)] 256 (.v 1) (.n 256) rfl hL (Nat.div_add_mod _ _))) (Nat.mod_eq_of_lt (linS [] [] 1 (.n 80) (.n 256) rfl)) (Nat.div_eq_of_lt (linS [_, _] [.s 1 (.v 0) (.n 256), .r 1 (.v 0) (.v 1)] 1 (.v 1) (.n 256) rfl (Nat.mod_lt _ (by decide)) (Nat.mod_eq_of_lt (linS [_, _, _, _, _] [.s 1 (.v 0) (.n 19200), .q 1 (.a (.m 256 (.v 1)) (.v 2)) (.v 0), .r 256 (.v 3) (.v 4), .q 256 (.v 3) (.v 1), .r 256 (.v 4) (.n 80)] 0 (.v 0) (.n 256) rfl hL (Nat.div_add_mod _ _) z0 (Nat.mod_eq_of_lt (linS [_, _, _] [.s 1 (.v 0) (.n 19200), .q 1 (.a (.m 256 (.v 1)) (.v 2)) (.v 0)] 256 (.v 1) (.n 256) rfl hL (Nat.div_add_mod _ _))) (Nat.mod_eq_of_lt (linS [] [] 1 (.n 80) (.n 256) rfl))))))))))
  have p75 : (pl / 256).toUInt8 ≠ 75 := u8_ne (k := 75) (by (exact (fun z0 => (linF [_, _, _] [.r 1 (.v 0) (.v 1), .q 1 (.v 0) (.v 2), .r 1 (.v 1) (.n 75), .q 1 (.v 2) (.n 0)] rfl z0 (Nat.mod_eq_of_lt (linS [_, _, _] [.s 1 (.v 0) (.n 19200), .q 1 (.a (.m 256 (.v 1)) (.v 2)) (.v 0)] 256 (.v 1) (.n 256) rfl hp (Nat.div_add_mod _ _))) (Nat.mod_eq_of_lt (linS [] [] 1 (.n 75) (.n 256) rfl)) (Nat.div_eq_of_lt (linS [_, _] [.s 1 (.v 0) (.n 256), .r 1 (.v 0) (.v 1)] 1 (.v 1) (.n 256) rfl (Nat.mod_lt _ (by decide)) (Nat.mod_eq_of_lt (linS [_, _, _, _, _] [.s 1 (.v 0) (.n 19200), .q 1 (.a (.m 256 (.v 1)) (.v 2)) (.v 0), .r 256 (.v 3) (.v 4), .q 256 (.v 3) (.v 1), .r 256 (.v 4) (.n 75)] 0 (.v 0) (.n 256) rfl hp (Nat.div_add_mod _ _) z0 (Nat.mod_eq_of_lt (linS [_, _, _] [.s 1 (.v 0) (.n 19200), .q 1 (.a (.m 256 (.v 1)) (.v 2)) (.v 0)] 256 (.v 1) (.n 256) rfl hp (Nat.div_add_mod _ _))) (Nat.mod_eq_of_lt (linS [] [] 1 (.n 75) (.n 256) rfl))))))))))
  have p80 : (pl / 256).toUInt8 ≠ 80 := u8_ne (k := 80) (by (exact (fun z0 => (linF [_, _, _] [.r 1 (.v 0) (.v 1), .q 1 (.v 0) (.v 2), .r 1 (.v 1) (.n 80), .q 1 (.v 2) (.n 0)] rfl z0 (Nat.mod_eq_of_lt (linS [_, _, _] [.s 1 (.v 0) (.n 19200), .q 1 (.a (.m 256 (.v 1)) (.v 2)) (.v 0)] 256 (.v 1) (.n 256) rfl hp (Nat.div_add_mod _ _))) (Nat.mod_eq_of_lt (linS [] [] 1 (.n 80) (.n 256) rfl)) (Nat.div_eq_of_lt (linS [_, _] [.s 1 (.v 0) (.n 256), .r 1 (.v 0) (.v 1)] 1 (.v 1) (.n 256) rfl (Nat.mod_lt _ (by decide)) (Nat.mod_eq_of_lt (linS [_, _, _, _, _] [.s 1 (.v 0) (.n 19200), .q 1 (.a (.m 256 (.v 1)) (.v 2)) (.v 0), .r 256 (.v 3) (.v 4), .q 256 (.v 3) (.v 1), .r 256 (.v 4) (.n 80)] 0 (.v 0) (.n 256) rfl hp (Nat.div_add_mod _ _) z0 (Nat.mod_eq_of_lt (linS [_, _, _] [.s 1 (.v 0) (.n 19200), .q 1 (.a (.m 256 (.v 1)) (.v 2)) (.v 0)] 256 (.v 1) (.n 256) rfl hp (Nat.div_add_mod _ _))) (Nat.mod_eq_of_lt (linS [] [] 1 (.n 80) (.n 256) rfl))))))))))
  simp only [rowH, fixB, fieldB, zeroB, le4, le2, List.cons_append, List.nil_append, s1, s2, s3, p2, p3]
  rw [occ, if_pos ⟨_, rfl⟩]
  refine congrArg (1 + ·) ?_
  iterate 15 rw [occ0 (by decide)]
  rw [occ4 n20, occ4 (by decide), occ3 (by decide), occ1 n75, occ0 n80]
  iterate 3 rw [occ0 (by decide)]
  rw [occ0 n80]
  iterate 3 rw [occ0 (by decide)]
  rw [occ1 l75, occ0 l80]
  iterate 12 rw [occ0 (by decide)]
  rw [occ1 p75, occ0 p80]
  iterate 2 rw [occ0 (by decide)]
theorem occ_rows_eq : ∀ (rs : List Row) (pl : Nat), (∀ r ∈ rs, RowW r) → Clean pl rs → occ (rowsB pl rs) = rs.length
  | [], _, _, _ => rfl
  | r :: rs, pl, h, c => by
    rw [rowsB, rowB, List.append_assoc, occ_head _ (h r (.head _)).2.1 c.1.1 c.1.2.1 c.1.2.2.1, occ_no _ _ c.1.2.2.2 (rows_head _ _), occ_rows_eq rs _ (fun r hr => h r (.tail _ hr)) c.2, List.length_cons]
    (exact (linE [_] [] 1 (.a (.n 1) (.v 0)) (.a (.v 0) (.n 1)) rfl rfl))
theorem align {x nm : Bs} {rs rs' : List Row} {pl pl' : Nat} (hx : NoPK x) (hw : ∀ r ∈ rs, RowW r) (hc : Clean pl rs) (hn : rs'.length = rs.length) (h : nm ++ rowsB pl' rs' = x ++ rowsB pl rs) : nm = x ∧ rowsB pl' rs' = rowsB pl rs := by
  have o1 := occ_rows_ge rs' pl'
  have o2 := occ_rows_eq rs pl hw hc
  rcases List.append_eq_append_iff.mp h with ⟨z, e1, e2⟩ | ⟨z, e1, e2⟩
  · -- x = nm ++ z
    cases hz : z with
    | nil => subst hz; simp at e1 e2; exact ⟨e1.symm, e2⟩
    | cons b z' =>
      exfalso
      cases rs' with
      | nil => rw [hz] at e2; simp [rowsB] at e2
      | cons r' rs' =>
        have nz : NoPK z := by
          have : ∀ (a : Bs), NoPK (a ++ z) → NoPK z := by
            intro a
            induction a with
            | nil => exact id
            | cons b a ih => intro q; exact ih q.tail
          exact this nm (e1 ▸ hx)
        have q : pk <+: (z ++ rowsB pl rs) := by rw [← e2]; exact rows_pk pl' r' _
        have := occ_start (x := z) (y := rowsB pl rs) (by rw [hz]; simp) q
        rw [occ_no z _ nz (rows_head _ _)] at this
        (exact (linF [_] [.l 1 (.a (.n 1) (.v 0)) (.v 0)] rfl this))
  · cases hz : z with
    | nil => subst hz; simp at e1 e2; exact ⟨e1, e2.symm⟩
    | cons b z' =>
      exfalso
      cases rs with
      | nil => rw [hz] at e2; simp [rowsB] at e2
      | cons r rs =>
        have q : pk <+: (z ++ rowsB pl' rs') := by rw [← e2]; exact rows_pk pl r _
        have := occ_start (x := z) (y := rowsB pl' rs') (by rw [hz]; simp) q
        rw [← e2, o2] at this
        (exact (linF [_, _, _] [.l 1 (.v 0) (.v 1), .r 1 (.v 0) (.v 2), .l 1 (.a (.n 1) (.v 1)) (.v 2)] rfl o1 hn this))
noncomputable def rowsAfter : List Row → Nat → UInt8 → Option (List Row)
  | [], _, _ => none
  | r :: rs, p, v =>
    if p < 16 ∨ (20 ≤ p ∧ p < 46) then none
    else if p < 20 then some ((r.1, r.2.1.set (p - 16) v, r.2.2) :: rs)
    else if p < 46 + r.1.length then some ((r.1.set (p - 46) v, r.2.1, r.2.2) :: rs)
    else (rowsAfter rs (p - (46 + r.1.length)) v).map (r :: ·)
theorem rowH_name {pl s : Nat} {nm nm' cr : Bs} (h : nm'.length = nm.length) : rowH pl (nm', cr, s) = rowH pl (nm, cr, s) := by
  simp only [rowH, h]
theorem rowH_set {pl s p : Nat} {nm cr : Bs} {v : UInt8} (h : cr.length = 4) (h1 : 16 ≤ p) (h2 : p < 20) : (rowH pl (nm, cr, s)).set p v = rowH pl (nm, cr.set (p - 16) v, s) := by
  obtain ⟨c0, c1, c2, c3, rfl⟩ := four h
  have : p = 16 ∨ p = 17 ∨ p = 18 ∨ p = 19 := by (exact (Decidable.byContradiction fun z0 => ((Nat.lt_or_gt_of_ne (not_or.mp z0).1).elim (fun y4 => (linF [_] [.l 1 (.n 16) (.v 0), .s 1 (.v 0) (.n 16)] rfl h1 y4)) (fun y4 => ((Nat.lt_or_gt_of_ne (not_or.mp (not_or.mp z0).2).1).elim (fun y3 => (linF [_] [.s 1 (.n 16) (.v 0), .s 1 (.v 0) (.n 17)] rfl y4 y3)) (fun y3 => ((Nat.lt_or_gt_of_ne (not_or.mp (not_or.mp (not_or.mp z0).2).2).1).elim (fun y2 => (linF [_] [.s 1 (.n 17) (.v 0), .s 1 (.v 0) (.n 18)] rfl y3 y2)) (fun y2 => ((Nat.lt_or_gt_of_ne (not_or.mp (not_or.mp (not_or.mp z0).2).2).2).elim (fun y1 => (linF [_] [.s 1 (.n 18) (.v 0), .s 1 (.v 0) (.n 19)] rfl y2 y1)) (fun y1 => (linF [_] [.s 1 (.v 0) (.n 20), .s 1 (.n 19) (.v 0)] rfl h2 y1)))))))))))
  rcases this with rfl | rfl | rfl | rfl <;> rfl
theorem set_ne_self {l : Bs} {p : Nat} {v : UInt8} (hp : p < l.length) (h : l = l.set p v) : l[p]? = some v := by
  rw [h, List.getElem?_set_self hp]
theorem turn_rows {v : UInt8} : ∀ (rs rs' : List Row) (pl p : Nat), rs'.length = rs.length → (∀ r ∈ rs, RowOk r) → (∀ r ∈ rs', RowOk r) → Clean pl rs → p < rsize rs → (rowsB pl rs)[p]? ≠ some v → rowsB pl rs' = (rowsB pl rs).set p v → rowsAfter rs p v = some rs'
  | [], _, _, p, _, _, _, _, hp, _, _ => by simp [rsize] at hp
  | r :: rs, [], _, _, h, _, _, _, _, _, _ => by cases h
  | r :: rs, r' :: rs', pl, p, hn, h1, h2, hc, hp, hv, h => by
    have w1 := (h1 r (.head _)).w
    have w2 := (h2 r' (.head _)).w
    have ws : ∀ r ∈ rs, RowW r := fun r hr => (h1 r (.tail _ hr)).w
    have ws' : ∀ r ∈ rs', RowW r := fun r hr => (h2 r (.tail _ hr)).w
    have hL := rowW_len (pl := pl) w1
    simp only [rsize, List.map_cons, List.sum_cons] at hp
    simp only [rowsB] at h hv
    rw [List.set_append] at h
    rw [List.getElem?_append] at hv
    rw [hL] at h hv
    obtain ⟨nm, cr, s⟩ := r
    obtain ⟨nm', cr', s'⟩ := r'
    simp only at hL h hv w1 w2 hp
    have c4 : cr.length = 4 := w1.2.1
    rw [rowsAfter]
    by_cases c : p < 46 + nm.length
    · rw [if_pos c] at h hv
      by_cases c2 : 46 ≤ p
      · rw [if_neg (by (exact (fun z0 => (z0.elim (fun y4 => (linF [_] [.l 1 (.n 46) (.v 0), .s 1 (.v 0) (.n 16)] rfl c2 y4)) (fun y4 => (linF [_] [.l 1 (.n 46) (.v 0), .s 1 (.v 0) (.n 46)] rfl c2 y4.2)))))), if_neg (by (exact (fun z0 => (linF [_] [.l 1 (.n 46) (.v 0), .s 1 (.v 0) (.n 20)] rfl c2 z0)))), if_pos c]
        have : (rowB pl (nm, cr, s)).set p v = rowB pl (nm.set (p - 46) v, cr, s) := by
          rw [rowB, rowB, List.set_append, if_neg (by rw [rowH_len c4]; (exact (fun z0 => (linF [_] [.l 1 (.n 46) (.v 0), .s 1 (.v 0) (.n 46)] rfl c2 z0)))), rowH_len c4]
          simp only
          rw [rowH_name (nm := nm) (nm' := nm.set (p - 46) v) (List.length_set ..)]
        rw [this] at h
        obtain ⟨e1, e2⟩ := row_cut (r := (nm', cr', s')) (r' := (nm.set (p - 46) v, cr, s)) w2 ⟨by show (nm.set _ _).length < _; rw [List.length_set]; exact w1.1, w1.2⟩ h
        have hr : rroom (nm', cr', s') = rroom (nm, cr, s) := by rw [e1]; simp [rroom]
        rw [hr] at e2
        rw [e1, rowsB_uniq _ _ _ ws' ws e2]
      · by_cases c3 : 16 ≤ p ∧ p < 20
        · rw [if_neg (by (exact (fun z0 => (z0.elim (fun y4 => (linF [_] [.l 1 (.n 16) (.v 0), .s 1 (.v 0) (.n 16)] rfl c3.1 y4)) (fun y4 => (linF [_] [.s 1 (.v 0) (.n 20), .l 1 (.n 20) (.v 0)] rfl c3.2 y4.1)))))), if_pos (by (exact (linS [_] [.s 1 (.v 0) (.n 20)] 1 (.v 0) (.n 20) rfl c3.2)))]
          have : (rowB pl (nm, cr, s)).set p v = rowB pl (nm, cr.set (p - 16) v, s) := by
            rw [rowB, rowB, List.set_append, if_pos (by rw [rowH_len c4]; (exact (linS [_] [.s 1 (.v 0) (.n 46)] 1 (.v 0) (.n 46) rfl (Nat.lt_of_not_le c2)))), rowH_set c4 c3.1 c3.2]
          rw [this] at h
          obtain ⟨e1, e2⟩ := row_cut (r := (nm', cr', s')) (r' := (nm, cr.set (p - 16) v, s)) w2 ⟨w1.1, by show (cr.set _ _).length = _; rw [List.length_set]; exact w1.2.1, w1.2.2⟩ h
          have hr : rroom (nm', cr', s') = rroom (nm, cr, s) := by rw [e1]; simp [rroom]
          rw [hr] at e2
          rw [e1, rowsB_uniq _ _ _ ws' ws e2]
        · exfalso
          rw [rowB, rowB, List.set_append, if_pos (by rw [rowH_len c4]; (exact (linS [_] [.s 1 (.v 0) (.n 46)] 1 (.v 0) (.n 46) rfl (Nat.lt_of_not_le c2)))), List.append_assoc, List.append_assoc] at h
          rw [rowB, List.getElem?_append_left (by rw [rowH_len c4]; (exact (linS [_] [.s 1 (.v 0) (.n 46)] 1 (.v 0) (.n 46) rfl (Nat.lt_of_not_le c2))))] at hv
          obtain ⟨e1, e2⟩ := List.append_inj h (by rw [List.length_set, rowH_len w2.2.1, rowH_len c4])
          obtain ⟨e3, _⟩ := align hc.1.2.2.2 ws hc.2 (by simpa using hn) e2
          simp only at e3
          subst e3
          have c4' : cr'.length = 4 := w2.2.1
          have key : ∀ i, p ≠ i → (rowH pl (nm', cr, s))[i]? = (rowH pl (nm', cr', s'))[i]? := by
            intro i hi
            rw [e1, List.getElem?_set_ne hi]
          have es : s = s' := by
            obtain ⟨c0, c1, c2, c3, rfl⟩ := four c4
            obtain ⟨d0, d1, d2, d3, rfl⟩ := four c4'
            refine le4_inj w1.2.2 w2.2.2 ?_
            by_cases q : p < 24
            · have a1 : s.toUInt8 = s'.toUInt8 := Option.some.inj (key 24 (by (exact (fun z0 => (linF [_] [.s 1 (.v 0) (.n 24), .r 1 (.v 0) (.n 24)] rfl q z0)))))
              have a2 : (s / 256).toUInt8 = (s' / 256).toUInt8 := Option.some.inj (key 25 (by (exact (fun z0 => (linF [_] [.s 1 (.v 0) (.n 24), .r 1 (.v 0) (.n 25)] rfl q z0)))))
              have a3 : (s / 65536).toUInt8 = (s' / 65536).toUInt8 := Option.some.inj (key 26 (by (exact (fun z0 => (linF [_] [.s 1 (.v 0) (.n 24), .r 1 (.v 0) (.n 26)] rfl q z0)))))
              have a4 : (s / 16777216).toUInt8 = (s' / 16777216).toUInt8 := Option.some.inj (key 27 (by (exact (fun z0 => (linF [_] [.s 1 (.v 0) (.n 24), .r 1 (.v 0) (.n 27)] rfl q z0)))))
              simp only [le4, a1, a2, a3, a4]
            · have a1 : s.toUInt8 = s'.toUInt8 := Option.some.inj (key 20 (by (exact (fun z0 => (linF [_] [.l 1 (.n 24) (.v 0), .q 1 (.v 0) (.n 20)] rfl (Nat.le_of_not_lt q) z0)))))
              have a2 : (s / 256).toUInt8 = (s' / 256).toUInt8 := Option.some.inj (key 21 (by (exact (fun z0 => (linF [_] [.l 1 (.n 24) (.v 0), .q 1 (.v 0) (.n 21)] rfl (Nat.le_of_not_lt q) z0)))))
              have a3 : (s / 65536).toUInt8 = (s' / 65536).toUInt8 := Option.some.inj (key 22 (by (exact (fun z0 => (linF [_] [.l 1 (.n 24) (.v 0), .q 1 (.v 0) (.n 22)] rfl (Nat.le_of_not_lt q) z0)))))
              have a4 : (s / 16777216).toUInt8 = (s' / 16777216).toUInt8 := Option.some.inj (key 23 (by (exact (fun z0 => (linF [_] [.l 1 (.n 24) (.v 0), .q 1 (.v 0) (.n 23)] rfl (Nat.le_of_not_lt q) z0)))))
              simp only [le4, a1, a2, a3, a4]
          have ec : cr = cr' := by
            obtain ⟨c0, c1, c2, c3, rfl⟩ := four c4
            obtain ⟨d0, d1, d2, d3, rfl⟩ := four c4'
            have a1 : c0 = d0 := Option.some.inj (key 16 (by (exact (fun z0 => ((Decidable.not_and_iff_or_not.mp (by assumption)).elim (fun y4 => (linF [_] [.r 1 (.v 0) (.n 16), .s 1 (.v 0) (.n 16)] rfl z0 (Nat.lt_of_not_le y4))) (fun y4 => (linF [_] [.q 1 (.v 0) (.n 16), .l 1 (.n 20) (.v 0)] rfl z0 (Nat.le_of_not_lt y4))))))))
            have a2 : c1 = d1 := Option.some.inj (key 17 (by (exact (fun z0 => ((Decidable.not_and_iff_or_not.mp (by assumption)).elim (fun y4 => (linF [_] [.r 1 (.v 0) (.n 17), .s 1 (.v 0) (.n 16)] rfl z0 (Nat.lt_of_not_le y4))) (fun y4 => (linF [_] [.q 1 (.v 0) (.n 17), .l 1 (.n 20) (.v 0)] rfl z0 (Nat.le_of_not_lt y4))))))))
            have a3 : c2 = d2 := Option.some.inj (key 18 (by (exact (fun z0 => ((Decidable.not_and_iff_or_not.mp (by assumption)).elim (fun y4 => (linF [_] [.r 1 (.v 0) (.n 18), .s 1 (.v 0) (.n 16)] rfl z0 (Nat.lt_of_not_le y4))) (fun y4 => (linF [_] [.q 1 (.v 0) (.n 18), .l 1 (.n 20) (.v 0)] rfl z0 (Nat.le_of_not_lt y4))))))))
            have a4 : c3 = d3 := Option.some.inj (key 19 (by (exact (fun z0 => ((Decidable.not_and_iff_or_not.mp (by assumption)).elim (fun y4 => (linF [_] [.r 1 (.v 0) (.n 19), .s 1 (.v 0) (.n 16)] rfl z0 (Nat.lt_of_not_le y4))) (fun y4 => (linF [_] [.q 1 (.v 0) (.n 19), .l 1 (.n 20) (.v 0)] rfl z0 (Nat.le_of_not_lt y4))))))))
            rw [a1, a2, a3, a4]
          subst es ec
          exact hv (set_ne_self (by rw [rowH_len c4]; (exact (linS [_] [.s 1 (.v 0) (.n 46)] 1 (.v 0) (.n 46) rfl (Nat.lt_of_not_le c2)))) e1)
    · rw [if_neg c] at h hv
      rw [if_neg (by (exact (fun z0 => (z0.elim (fun y4 => (linF [_, _] [.l 1 (.a (.n 46) (.v 0)) (.v 1), .s 1 (.v 1) (.n 16)] rfl (Nat.le_of_not_lt c) y4)) (fun y4 => (linF [_, _] [.l 1 (.a (.n 46) (.v 0)) (.v 1), .s 1 (.v 1) (.n 46)] rfl (Nat.le_of_not_lt c) y4.2)))))), if_neg (by (exact (fun z0 => (linF [_, _] [.l 1 (.a (.n 46) (.v 0)) (.v 1), .s 1 (.v 1) (.n 20)] rfl (Nat.le_of_not_lt c) z0)))), if_neg c]
      obtain ⟨e1, e2⟩ := row_cut w2 w1 h
      rw [e1] at e2
      rw [turn_rows rs rs' _ _ (by simpa using hn) (fun r hr => h1 r (.tail _ hr)) (fun r hr => h2 r (.tail _ hr)) hc.2 (by simp only [rsize]; (exact (linS [_, _, _, _] [.s 1 (.v 0) (.a (.a (.n 46) (.v 1)) (.v 2)), .q 1 (.a (.v 3) (.a (.n 46) (.v 1))) (.v 0)] 1 (.v 3) (.v 2) rfl hp (Nat.sub_add_cancel (linL [_, _] [.l 1 (.a (.n 46) (.v 0)) (.v 1)] 1 (.a (.n 46) (.v 0)) (.v 1) rfl (Nat.le_of_not_lt c)))))) hv e2, e1]
      rfl
theorem after_rows {v : UInt8} : ∀ (rs rs' : List Row) (pl p : Nat), (∀ r ∈ rs, RowOk r) → p < rsize rs → rowsAfter rs p v = some rs' → rowsB pl rs' = (rowsB pl rs).set p v ∧ (∀ r ∈ rs', RowOk r) ∧ rs'.length = rs.length ∧ rsize rs' = rsize rs ∧ tot rs' = tot rs
  | [], _, _, p, _, hp, _ => by simp [rsize] at hp
  | r :: rs, rs', pl, p, h1, hp, h => by
    have o1 := h1 r (.head _)
    have w1 := o1.w
    have hL := rowW_len (pl := pl) w1
    simp only [rsize, List.map_cons, List.sum_cons] at hp
    obtain ⟨nm, cr, s⟩ := r
    simp only at hL hp w1
    have c4 : cr.length = 4 := w1.2.1
    rw [rowsAfter] at h
    by_cases c0 : p < 16 ∨ (20 ≤ p ∧ p < 46)
    · rw [if_pos c0] at h; cases h
    rw [if_neg c0] at h
    by_cases c1 : p < 20
    · rw [if_pos c1] at h
      cases h
      refine ⟨?_, ?_, rfl, rfl, rfl⟩
      · rw [rowsB, rowsB, List.set_append, if_pos (by rw [hL]; (exact (linS [_, _] [.s 1 (.v 0) (.n 20)] 1 (.v 0) (.a (.n 46) (.v 1)) rfl c1))), rowB, rowB, List.set_append, if_pos (by rw [rowH_len c4]; (exact (linS [_] [.s 1 (.v 0) (.n 20)] 1 (.v 0) (.n 46) rfl c1))), rowH_set c4 (by (exact (linL [_] [.l 1 (.n 16) (.v 0)] 1 (.n 16) (.v 0) rfl (Nat.le_of_not_lt (not_or.mp c0).1)))) c1]
        rfl
      · intro r hr
        cases hr with
        | head => exact ⟨o1.1, o1.2.1, by show (cr.set _ _).length = _; rw [List.length_set]; exact c4, o1.2.2.2⟩
        | tail _ hr => exact h1 r (.tail _ hr)
    rw [if_neg c1] at h
    by_cases c2 : p < 46 + nm.length
    · rw [if_pos c2] at h
      cases h
      refine ⟨?_, ?_, rfl, ?_, ?_⟩
      · rw [rowsB, rowsB, List.set_append, if_pos (by rw [hL]; (exact (linS [_, _] [.s 1 (.v 0) (.a (.n 46) (.v 1))] 1 (.v 0) (.a (.n 46) (.v 1)) rfl c2))), rowB, rowB, List.set_append, if_neg (by rw [rowH_len c4]; (exact (fun z0 => ((Decidable.not_and_iff_or_not.mp (not_or.mp c0).2).elim (fun y4 => (linF [_] [.l 1 (.n 20) (.v 0), .s 1 (.v 0) (.n 20)] rfl (Nat.le_of_not_lt c1) (Nat.lt_of_not_le y4))) (fun y4 => (linF [_] [.s 1 (.v 0) (.n 46), .l 1 (.n 46) (.v 0)] rfl z0 (Nat.le_of_not_lt y4))))))), rowH_len c4]
        simp only
        rw [rowH_name (nm := nm) (nm' := nm.set (p - 46) v) (List.length_set ..)]
        simp [rroom]
      · intro r hr
        cases hr with
        | head => exact ⟨by intro q; exact o1.1 (List.eq_nil_of_length_eq_zero (by have := congrArg List.length q; simpa using this)), by show (nm.set _ _).length < _; rw [List.length_set]; exact o1.2.1, o1.2.2.1, o1.2.2.2⟩
        | tail _ hr => exact h1 r (.tail _ hr)
      · simp [rsize]
      · simp [tot, rroom]
    · rw [if_neg c2] at h
      obtain ⟨rs2, e1, e2⟩ := Option.map_eq_some_iff.mp h
      subst e2
      obtain ⟨a1, a2, a3, a4, a5⟩ := after_rows rs rs2 (pl + rroom (nm, cr, s)) _ (fun r hr => h1 r (.tail _ hr)) (by simp only [rsize]; (exact (linS [_, _, _, _] [.s 1 (.v 0) (.a (.a (.n 46) (.v 1)) (.v 2)), .q 1 (.a (.v 3) (.a (.n 46) (.v 1))) (.v 0)] 1 (.v 3) (.v 2) rfl hp (Nat.sub_add_cancel (linL [_, _] [.l 1 (.a (.n 46) (.v 0)) (.v 1)] 1 (.a (.n 46) (.v 0)) (.v 1) rfl (Nat.le_of_not_lt c2)))))) e1
      refine ⟨?_, ?_, by simp [a3], ?_, ?_⟩
      · rw [rowsB, rowsB, List.set_append, if_neg (by rw [hL]; (exact (fun z0 => (linF [_, _] [.l 1 (.a (.n 46) (.v 0)) (.v 1), .s 1 (.v 1) (.a (.n 46) (.v 0))] rfl (Nat.le_of_not_lt c2) z0)))), hL, a1]
      · intro r hr
        cases hr with
        | head => exact o1
        | tail _ hr => exact a2 r hr
      · simp only [rsize, List.map_cons, List.sum_cons] at a4 ⊢; (exact (linE [_, _, _] [.q 1 (.v 0) (.v 1)] 1 (.a (.a (.n 46) (.v 2)) (.v 0)) (.a (.a (.n 46) (.v 2)) (.v 1)) rfl rfl a4))
      · simp only [tot, List.map_cons, List.sum_cons] at a5 ⊢; (exact (linE [_, _, _] [.q 1 (.v 0) (.v 1)] 1 (.a (.v 2) (.v 0)) (.a (.v 2) (.v 1)) rfl rfl a5))
theorem fresh_iff : ∀ (rs : List Row) (seen : List Bs), fresh seen rs ↔ (rs.map (·.1)).Nodup ∧ ∀ n ∈ rs.map (·.1), n ∉ seen
  | [], seen => by simp [fresh]
  | r :: rs, seen => by
    rw [fresh, fresh_iff rs]
    simp only [List.map_cons, List.nodup_cons, List.mem_cons, forall_eq_or_imp]
    constructor
    · rintro ⟨a, b, c⟩
      refine ⟨⟨fun q => c _ q (by simp), b⟩, a, fun n hn hs => c n hn (by simp [hs])⟩
    · rintro ⟨⟨a, b⟩, c, d⟩
      refine ⟨c, b, fun n hn hs => ?_⟩
      rcases List.mem_append.mp hs with h | h
      · exact d n hn h
      · rw [List.mem_singleton] at h; subst h; exact a hn
theorem fresh_nil (rs : List Row) : fresh [] rs ↔ (rs.map (·.1)).Nodup := by
  rw [fresh_iff]; simp
theorem rowOf_names (es : List Ent) : (es.map rowOf).map (·.1) = es.map (·.1) := by rw [List.map_map]; rfl
noncomputable def namesAfter : List Bs → Nat → UInt8 → Option (List Bs)
  | [], _, _ => none
  | r :: rs, p, v =>
    if p < 16 ∨ (20 ≤ p ∧ p < 46) then none
    else if p < 20 then some (r :: rs)
    else if p < 46 + r.length then some (r.set (p - 46) v :: rs)
    else (namesAfter rs (p - (46 + r.length)) v).map (r :: ·)
theorem after_names {v : UInt8} : ∀ (rs : List Row) (p : Nat), (rowsAfter rs p v).map (fun l => l.map (·.1)) = namesAfter (rs.map (·.1)) p v
  | [], _ => rfl
  | r :: rs, p => by
    rw [rowsAfter, List.map_cons, namesAfter, ← after_names rs]
    by_cases c0 : p < 16 ∨ (20 ≤ p ∧ p < 46)
    · rw [if_pos c0, if_pos c0]; rfl
    rw [if_neg c0, if_neg c0]
    by_cases c1 : p < 20
    · rw [if_pos c1, if_pos c1]; rfl
    rw [if_neg c1, if_neg c1]
    by_cases c2 : p < 46 + r.1.length
    · rw [if_pos c2, if_pos c2]; rfl
    rw [if_neg c2, if_neg c2]
    cases rowsAfter rs (p - (46 + r.1.length)) v <;> rfl
noncomputable def tellN (l : Option (List Itm)) : Option (List Bs) := l.map fun l => l.map (·.1)
noncomputable def noDup (o : Option (List Bs)) : Option (List Bs) := o.bind fun ns => if ns.Nodup then some ns else none
noncomputable abbrev tailB (es : List Ent) : Bs := endB es.length (middle 0 es).length (front es).length
theorem middle_len {es : List Ent} (hf : Fit es) : (middle 0 es).length = rsize (es.map rowOf) := by
  rw [middle_rows, rowsW_len]
  intro r hr
  obtain ⟨e, he, rfl⟩ := List.mem_map.mp hr
  exact ⟨(hf.2 e he).1, rfl, (hf.2 e he).2⟩
theorem rows_w {es : List Ent} (hf : Fit es) : ∀ r ∈ es.map rowOf, RowW r := by
  intro r hr
  obtain ⟨e, he, rfl⟩ := List.mem_map.mp hr
  exact ⟨(hf.2 e he).1, rfl, (hf.2 e he).2⟩
theorem arc_len (es : List Ent) : (arc es).length = (front es).length + (middle 0 es).length + 22 := by
  simp [arc, endB_length]; (exact (linE [_, _] [] 1 (.a (.v 0) (.a (.v 1) (.n 22))) (.a (.a (.v 0) (.v 1)) (.n 22)) rfl rfl))
theorem dir_gram {d pre : Bs} {rs : List Row} (hl : d.length ≤ 16777216) (h : Gram d pre rs) : tellN (dirP d) = some (rs.map (·.1)) := by
  rw [dir_of_gr hl h, tellN, Option.map_some, items_names]
theorem turn_mid {es : List Ent} {p : Nat} {v : UInt8} (hf : Fit es) (hg : good es = true) (hl : (arc es).length ≤ 16777216) (hc : Clean 0 (es.map rowOf)) (hp : p < (middle 0 es).length) (hv : (middle 0 es)[p]? ≠ some v) :
    readP (front es ++ (middle 0 es).set p v ++ tailB es) = none ∧ tellN (dirP (front es ++ (middle 0 es).set p v ++ tailB es)) = noDup (namesAfter (es.map (·.1)) p v) := by
  have g := arc_gram hf hg
  have hal := arc_len es
  have hm := middle_len hf
  have hl' : (front es ++ (middle 0 es).set p v ++ tailB es).length ≤ 16777216 := by
    simp only [List.length_append, List.length_set, tailB, endB_length]; (exact (linL [_, _, _] [.l 1 (.v 0) (.n 16777216), .r 1 (.v 0) (.a (.a (.v 1) (.v 2)) (.n 22))] 1 (.a (.a (.v 1) (.v 2)) (.n 22)) (.n 16777216) rfl hl hal))
  have hne : front es ++ (middle 0 es).set p v ++ tailB es ≠ arc es := by
    intro q
    rw [arc] at q
    have q := (List.append_inj (List.append_inj q (by simp)).1 rfl).2
    exact hv (set_ne_self hp q.symm)
  have key : ∀ pre rs, Gram (front es ++ (middle 0 es).set p v ++ tailB es) pre rs → pre = front es ∧ rowsAfter (es.map rowOf) p v = some rs := by
    intro pre rs g'
    obtain ⟨a1, a2, a3, a4⟩ := g'.parts (by have := hf.1; (exact (linS [_] [.s 1 (.v 0) (.n 65536)] 1 (.v 0) (.n 65536) rfl this))) (by rw [List.length_set]; (exact (linL [_, _, _] [.l 1 (.v 0) (.n 16777216), .r 1 (.v 0) (.a (.a (.v 1) (.v 2)) (.n 22))] 1 (.a (.v 1) (.v 2)) (.n 16777216) rfl hl hal))) rfl (by rw [List.length_set])
    refine ⟨a1, turn_rows (es.map rowOf) rs 0 p (by rw [a3, List.length_map]) g.ok g'.ok hc (by (exact (linS [_, _, _] [.s 1 (.v 0) (.v 1), .q 1 (.v 1) (.v 2)] 1 (.v 0) (.v 2) rfl hp hm))) ?_ ?_⟩
    · rw [← middle_rows]; exact hv
    · rw [← middle_rows]; exact a2
  have hread : readP (front es ++ (middle 0 es).set p v ++ tailB es) = none := by
    cases hd : dirP (front es ++ (middle 0 es).set p v ++ tailB es) with
    | none => exact read_none hd
    | some l =>
      obtain ⟨pre, rs, g', _⟩ := gr_of_dir hd
      obtain ⟨rfl, _⟩ := key pre rs g'
      exact read_same (pre := []) hl' hf g' hne
  refine ⟨hread, ?_⟩
  rw [← rowOf_names es, ← after_names]
  cases ha : rowsAfter (es.map rowOf) p v with
  | none =>
    rw [dir_none fun pre rs g' => by have := (key pre rs g').2; rw [ha] at this; cases this]
    rfl
  | some rs =>
    show _ = if (rs.map (·.1)).Nodup then some (rs.map (·.1)) else none
    obtain ⟨b1, b2, b3, b4, b5⟩ := after_rows (es.map rowOf) rs 0 p g.ok (by (exact (linS [_, _, _] [.s 1 (.v 0) (.v 1), .q 1 (.v 1) (.v 2)] 1 (.v 0) (.v 2) rfl hp hm))) ha
    by_cases hn : (rs.map (·.1)).Nodup
    · rw [if_pos hn]
      refine dir_gram hl' (pre := front es) (rs := rs) ⟨?_, ?_, b2, (fresh_nil rs).mpr hn, ?_⟩
      · rw [b1, ← middle_rows, b3, b4, List.length_map, tailB, hm]
      · rw [b5, g.tt]
      · rw [b3]; exact g.cnt
    · rw [if_neg hn]
      rw [dir_none fun pre rs' g' => by
        have := (key pre rs' g').2
        rw [ha] at this
        cases this
        exact hn ((fresh_nil rs).mp g'.fr)]
      rfl
theorem lt8 {a b : Nat} (h : a.toUInt8 = b.toUInt8) : a % 256 = b % 256 := by
  have := congrArg UInt8.toNat h
  simpa using this
theorem add_rows {v : UInt8} : ∀ (rs rs' : List Row) (pl p : Nat), rs'.length = rs.length → (∀ r ∈ rs, RowOk r) → (∀ r ∈ rs', RowOk r) → Clean pl rs → p < rsize rs → rowsB pl rs' = (rowsB pl rs).take p ++ v :: (rowsB pl rs).drop p → False
  | [], _, _, p, _, _, _, _, hp, _ => by simp [rsize] at hp
  | r :: rs, [], _, _, h, _, _, _, _, _ => by cases h
  | r :: rs, r' :: rs', pl, p, hn, h1, h2, hc, hp, h => by
    have o1 := h1 r (.head _)
    have w1 := o1.w
    have w2 := (h2 r' (.head _)).w
    have ws : ∀ r ∈ rs, RowW r := fun r hr => (h1 r (.tail _ hr)).w
    have hL := rowW_len (pl := pl) w1
    simp only [rsize, List.map_cons, List.sum_cons] at hp
    simp only [rowsB] at h
    rw [List.take_append, List.drop_append, hL] at h
    obtain ⟨nm, cr, s⟩ := r
    obtain ⟨nm', cr', s'⟩ := r'
    simp only at hL h w1 w2 hp
    have c4 : cr.length = 4 := w1.2.1
    have hn' : rs'.length = rs.length := by simpa using hn
    by_cases c : p < 46 + nm.length
    · rw [show p - (46 + nm.length) = 0 by (exact (linE [_] [.q 1 (.v 0) (.n 0)] 1 (.v 0) (.n 0) rfl rfl (Nat.sub_eq_zero_of_le (linL [_, _] [.s 1 (.v 0) (.a (.n 46) (.v 1))] 1 (.v 0) (.a (.n 46) (.v 1)) rfl c)))), List.take_zero, List.append_nil, List.drop_zero] at h
      have hH := rowH_len (pl := pl) (r := (nm, cr, s)) c4
      by_cases c2 : 46 ≤ p
      · simp only [rowB] at h
        rw [List.take_append, List.drop_append, hH, List.take_of_length_le (by (exact (linL [_, _] [.q 1 (.v 0) (.n 46), .l 1 (.n 46) (.v 1)] 1 (.v 0) (.v 1) rfl hH c2))), List.drop_eq_nil_of_le (as := rowH pl (nm, cr, s)) (by (exact (linL [_, _] [.q 1 (.v 0) (.n 46), .l 1 (.n 46) (.v 1)] 1 (.v 0) (.v 1) rfl hH c2))), List.nil_append, List.append_assoc, List.append_assoc] at h
        obtain ⟨e1, e2⟩ := List.append_inj h (by rw [hH, rowH_len w2.2.1])
        have hq : nm'.length = nm.length := by
          simp only [rowH, List.append_assoc] at e1
          have a1 := List.append_cancel_left (List.append_cancel_left e1)
          obtain ⟨c1, a2⟩ := List.append_inj a1 (by rw [show cr.length = 4 from c4, show cr'.length = 4 from w2.2.1])
          obtain ⟨_, a3⟩ := List.append_inj a2 rfl
          obtain ⟨_, a4⟩ := List.append_inj a3 rfl
          obtain ⟨c3, _⟩ := List.append_inj a4 rfl
          exact le2_inj w2.1 w1.1 c3
        have e3 : nm' ++ rowsB (pl + rroom (nm', cr', s')) rs' = (nm.take (p - 46) ++ v :: nm.drop (p - 46)) ++ rowsB (pl + rroom (nm, cr, s)) rs := by
          rw [e2]; simp
        have hx : (nm.take (p - 46) ++ v :: nm.drop (p - 46)).length = nm.length + 1 := by
          simp only [List.length_append, List.length_cons, List.length_take, List.length_drop]; (exact (linE [_, _, _, _] [.q 1 (.v 0) (.v 1), .q 1 (.a (.v 2) (.v 1)) (.v 3)] 1 (.a (.v 0) (.a (.v 2) (.n 1))) (.a (.v 3) (.n 1)) rfl rfl (Nat.min_eq_left (linL [_, _, _] [.s 1 (.v 0) (.a (.n 46) (.v 1)), .q 1 (.a (.v 2) (.n 46)) (.v 0)] 1 (.v 2) (.v 1) rfl c (Nat.sub_add_cancel (linL [_] [.l 1 (.n 46) (.v 0)] 1 (.n 46) (.v 0) rfl c2)))) (Nat.sub_add_cancel (linL [_, _, _] [.s 1 (.v 0) (.a (.n 46) (.v 1)), .q 1 (.a (.v 2) (.n 46)) (.v 0)] 1 (.v 2) (.v 1) rfl c (Nat.sub_add_cancel (linL [_] [.l 1 (.n 46) (.v 0)] 1 (.n 46) (.v 0) rfl c2))))))
        have e4 := congrArg (List.drop nm.length) e3
        rw [List.drop_append, List.drop_append, hx, ← hq, List.drop_length, List.nil_append, Nat.sub_self, List.drop_zero, show nm'.length - (nm'.length + 1) = 0 by (exact (linE [_] [.q 1 (.v 0) (.n 0)] 1 (.v 0) (.n 0) rfl rfl (Nat.sub_eq_zero_of_le (linL [_] [] 1 (.v 0) (.a (.v 0) (.n 1)) rfl)))), List.drop_zero] at e4
        have hz : ((nm.take (p - 46) ++ v :: nm.drop (p - 46)).drop nm'.length).length = 1 := by rw [List.length_drop, hx]; (exact (linE [_, _, _] [.r 1 (.v 0) (.v 1), .q 1 (.a (.v 2) (.v 0)) (.a (.v 1) (.n 1))] 1 (.v 2) (.n 1) rfl rfl hq (Nat.sub_add_cancel (linL [_, _] [.q 1 (.v 0) (.v 1)] 1 (.v 0) (.a (.v 1) (.n 1)) rfl hq))))
        generalize (nm.take (p - 46) ++ v :: nm.drop (p - 46)).drop nm'.length = z at e4 hz
        match z, hz with
        | [b], _ =>
        have := (align (nm := []) (x := [b]) (by simp [NoPK]) ws hc.2 hn' e4).1
        cases this
      · have hc1 := hc.1
        simp only at hc1
        have c4' : cr'.length = 4 := w2.2.1
        obtain ⟨c0, c1, c2, c3, rfl⟩ := four c4
        obtain ⟨d0, d1, d2, d3, rfl⟩ := four c4'
        have hH := rowH_len (pl := pl) (r := (nm, [c0, c1, c2, c3], s)) rfl
        have hp3 : (pl / 16777216).toUInt8 = 0 := by rw [Nat.div_eq_of_lt (by (exact (linS [_] [.s 1 (.v 0) (.n 19200)] 1 (.v 0) (.n 16777216) rfl hc1.2.2.1)))]; rfl
        have hsp : rowH pl (nm, [c0, c1, c2, c3], s) = (rowH pl (nm, [c0, c1, c2, c3], s)).take 45 ++ [0] := by
          rw [← hp3]; rfl
        simp only [rowB] at h
        rw [List.take_append, List.drop_append, hH, show p - 46 = 0 by (exact (linE [_] [.q 1 (.v 0) (.n 0)] 1 (.v 0) (.n 0) rfl rfl (Nat.sub_eq_zero_of_le (linL [_] [.s 1 (.v 0) (.n 46)] 1 (.v 0) (.n 46) rfl (Nat.lt_of_not_le (by assumption)))))), List.take_zero, List.append_nil, List.drop_zero] at h
        have hd : (rowH pl (nm, [c0, c1, c2, c3], s)).drop p = ((rowH pl (nm, [c0, c1, c2, c3], s)).take 45).drop p ++ [0] := by
          conv => lhs; rw [hsp]
          rw [List.drop_append, List.length_take, hH, show p - min 45 46 = 0 by (exact (linE [_] [.q 1 (.v 0) (.n 0)] 1 (.v 0) (.n 0) rfl rfl (Nat.sub_eq_zero_of_le (linL [_, _] [.s 1 (.v 0) (.n 46), .r 1 (.v 1) (.n 45)] 1 (.v 0) (.v 1) rfl (Nat.lt_of_not_le (by assumption)) (Nat.min_eq_left (linL [] [] 1 (.n 45) (.n 46) rfl))))))]; rfl
        rw [hd] at h
        have h' : rowH pl (nm', [d0, d1, d2, d3], s') ++ (nm' ++ rowsB (pl + rroom (nm', [d0, d1, d2, d3], s')) rs') = ((rowH pl (nm, [c0, c1, c2, c3], s)).take p ++ v :: ((rowH pl (nm, [c0, c1, c2, c3], s)).take 45).drop p) ++ ((0 :: nm) ++ rowsB (pl + rroom (nm, [c0, c1, c2, c3], s)) rs) := by
          simpa using h
        obtain ⟨e1, e2⟩ := List.append_inj h' (by
          rw [rowH_len rfl]
          simp only [List.length_append, List.length_cons, List.length_take, List.length_drop, hH]
          (exact (linE [_, _, _, _] [.r 1 (.v 0) (.v 1), .r 1 (.v 2) (.n 45), .r 1 (.a (.v 3) (.v 1)) (.v 2)] 1 (.n 46) (.a (.v 0) (.a (.v 3) (.n 1))) rfl rfl (Nat.min_eq_left (linL [_] [.s 1 (.v 0) (.n 46)] 1 (.v 0) (.n 46) rfl (Nat.lt_of_not_le (by assumption)))) (Nat.min_eq_left (linL [] [] 1 (.n 45) (.n 46) rfl)) (Nat.sub_add_cancel (linL [_, _] [.s 1 (.v 0) (.n 46), .r 1 (.v 1) (.n 45)] 1 (.v 0) (.v 1) rfl (Nat.lt_of_not_le (by assumption)) (Nat.min_eq_left (linL [] [] 1 (.n 45) (.n 46) rfl)))))))
        obtain ⟨e3, _⟩ := align (x := 0 :: nm) (by simpa [NoPK] using hc1.2.2.2) ws hc.2 hn' e2
        have hLn : nm'.length = nm.length + 1 := by rw [e3]; rfl
        have hL0 : nm.length ≠ 0 := fun q => o1.1 (List.eq_nil_of_length_eq_zero q)
        have key1 : ∀ i, i < p → (rowH pl (nm', [d0, d1, d2, d3], s'))[i]? = (rowH pl (nm, [c0, c1, c2, c3], s))[i]? := by
          intro i hi
          rw [e1, List.getElem?_append_left (by rw [List.length_take]; (exact (linS [_, _, _] [.s 1 (.v 0) (.v 1), .r 1 (.v 2) (.v 1)] 1 (.v 0) (.v 2) rfl hi (Nat.min_eq_left (linL [_, _] [.s 1 (.v 0) (.n 46), .r 1 (.v 1) (.n 46)] 1 (.v 0) (.v 1) rfl (Nat.lt_of_not_le (by assumption)) (by assumption)))))), List.getElem?_take_of_lt hi]
        have key2 : ∀ i, p ≤ i → i < 45 → (rowH pl (nm', [d0, d1, d2, d3], s'))[i + 1]? = (rowH pl (nm, [c0, c1, c2, c3], s))[i]? := by
          intro i hi hi2
          rw [e1, List.getElem?_append_right (by rw [List.length_take]; (exact (linL [_, _, _] [.l 1 (.v 0) (.v 1), .q 1 (.v 2) (.v 0)] 1 (.v 2) (.a (.v 1) (.n 1)) rfl hi (Nat.min_eq_left (linL [_, _] [.s 1 (.v 0) (.n 46), .r 1 (.v 1) (.n 46)] 1 (.v 0) (.v 1) rfl (Nat.lt_of_not_le (by assumption)) (by assumption)))))), List.length_take, hH, show i + 1 - min p 46 = (i - p) + 1 by (exact (linE [_, _, _, _, _] [.r 1 (.v 0) (.v 1), .q 1 (.a (.v 2) (.v 0)) (.a (.v 3) (.n 1)), .r 1 (.a (.v 4) (.v 1)) (.v 3)] 1 (.v 2) (.a (.v 4) (.n 1)) rfl rfl (Nat.min_eq_left (linL [_] [.s 1 (.v 0) (.n 46)] 1 (.v 0) (.n 46) rfl (Nat.lt_of_not_le (by assumption)))) (Nat.sub_add_cancel (linL [_, _, _] [.l 1 (.v 0) (.v 1), .q 1 (.v 2) (.v 0)] 1 (.v 2) (.a (.v 1) (.n 1)) rfl hi (Nat.min_eq_left (linL [_] [.s 1 (.v 0) (.n 46)] 1 (.v 0) (.n 46) rfl (Nat.lt_of_not_le (by assumption)))))) (Nat.sub_add_cancel (linL [_, _] [.l 1 (.v 0) (.v 1)] 1 (.v 0) (.v 1) rfl hi)))), List.getElem?_cons_succ, List.getElem?_drop, List.getElem?_take_of_lt (by (exact (linS [_, _, _] [.s 1 (.v 0) (.n 45), .q 1 (.a (.v 1) (.v 2)) (.v 0)] 1 (.a (.v 2) (.v 1)) (.n 45) rfl hi2 (Nat.sub_add_cancel (linL [_, _] [.l 1 (.v 0) (.v 1)] 1 (.v 0) (.v 1) rfl hi)))))]
          congr 1; (exact (linE [_, _, _] [.q 1 (.a (.v 0) (.v 1)) (.v 2)] 1 (.a (.v 1) (.v 0)) (.v 2) rfl rfl (Nat.sub_add_cancel (linL [_, _] [.l 1 (.v 0) (.v 1)] 1 (.v 0) (.v 1) rfl hi))))
        by_cases q : 28 < p
        · have a : nm'.length.toUInt8 = nm.length.toUInt8 := Option.some.inj (key1 28 q)
          have := lt8 a
          omega
        · have a : (nm'.length / 256).toUInt8 = nm.length.toUInt8 := Option.some.inj (key2 28 (by (exact (linL [_] [.l 1 (.v 0) (.n 28)] 1 (.v 0) (.n 28) rfl (Nat.le_of_not_lt q)))) (by (exact (linS [] [] 1 (.n 28) (.n 45) rfl))))
          have b : (0 : Nat).toUInt8 = (nm.length / 256).toUInt8 := Option.some.inj (key2 29 (by (exact (linL [_] [.l 1 (.v 0) (.n 28)] 1 (.v 0) (.n 29) rfl (Nat.le_of_not_lt q)))) (by (exact (linS [] [] 1 (.n 29) (.n 45) rfl))))
          have a := lt8 a
          have b := lt8 b
          have b1 : nm.length < 19200 := hc1.1
          have b2 : nm.length / 256 = 0 := by (exact (linE [_] [.q 1 (.v 0) (.n 0)] 1 (.v 0) (.n 0) rfl rfl (Nat.div_eq_of_lt (linS [_, _, _] [.r 1 (.v 0) (.a (.v 1) (.n 1)), .s 1 (.v 2) (.n 256), .r 1 (.v 2) (.v 0)] 1 (.v 1) (.n 256) rfl hLn (Nat.mod_lt _ (by decide)) (Nat.mod_eq_of_lt (linS [_, _, _, _, _, _, _, _, _] [.q 256 (.v 0) (.a (.v 1) (.n 1)), .q 1 (.a (.m 256 (.v 2)) (.v 3)) (.v 0), .r 256 (.a (.m 256 (.v 4)) (.v 5)) (.v 1), .r 256 (.v 6) (.v 5), .r 65536 (.v 7) (.v 8), .q 256 (.v 6) (.v 2), .q 65536 (.v 7) (.n 0), .r 65536 (.v 8) (.v 4)] 255 (.v 0) (.n 256) rfl hLn (Nat.div_add_mod _ _) (Nat.div_add_mod _ _) a b (Nat.mod_eq_of_lt (linS [_, _, _] [.r 1 (.a (.m 256 (.v 0)) (.v 1)) (.v 2), .s 1 (.v 1) (.n 256), .q 256 (.v 0) (.n 0)] 1 (.v 2) (.n 256) rfl (Nat.div_add_mod _ _) (Nat.mod_lt _ (by decide)) (Nat.div_eq_of_lt (linS [_, _, _, _] [.s 1 (.v 0) (.n 19200), .q 1 (.v 1) (.a (.v 0) (.n 1)), .q 1 (.a (.m 256 (.v 2)) (.v 3)) (.v 1)] 256 (.v 2) (.n 256) rfl hc1.1 hLn (Nat.div_add_mod _ _))))) (Nat.mod_eq_of_lt (linS [] [] 1 (.n 0) (.n 256) rfl)) (Nat.mod_eq_of_lt (linS [_, _, _] [.r 1 (.a (.m 256 (.v 0)) (.v 1)) (.v 2), .s 1 (.v 1) (.n 256), .q 256 (.v 0) (.n 0)] 1 (.v 2) (.n 256) rfl (Nat.div_add_mod _ _) (Nat.mod_lt _ (by decide)) (Nat.div_eq_of_lt (linS [_, _, _] [.s 1 (.v 0) (.n 19200), .q 1 (.a (.m 256 (.v 1)) (.v 2)) (.v 0)] 256 (.v 1) (.n 256) rfl hc1.1 (Nat.div_add_mod _ _)))))))))))
          have b3 : nm.length < 256 := by (exact (linS [_, _, _] [.r 1 (.v 0) (.a (.v 1) (.n 1)), .s 1 (.v 2) (.n 256), .r 1 (.v 2) (.v 0)] 1 (.v 1) (.n 256) rfl hLn (Nat.mod_lt _ (by decide)) (Nat.mod_eq_of_lt (linS [_, _, _, _, _, _, _, _] [.q 256 (.v 0) (.a (.v 1) (.n 1)), .q 1 (.a (.m 256 (.v 2)) (.v 3)) (.v 0), .q 256 (.a (.m 256 (.v 4)) (.v 5)) (.v 2), .r 256 (.a (.m 256 (.v 6)) (.v 7)) (.v 1), .r 256 (.v 5) (.v 7), .q 65536 (.v 6) (.n 0)] 255 (.v 0) (.n 256) rfl hLn (Nat.div_add_mod _ _) (Nat.div_add_mod _ _) (Nat.div_add_mod _ _) a b2))))
          have b4 : nm'.length / 256 ≤ 1 := by (exact (linL [_] [.q 1 (.v 0) (.n 0)] 1 (.v 0) (.n 1) rfl (Nat.div_eq_of_lt (linS [_, _] [.s 1 (.v 0) (.n 256), .r 1 (.v 0) (.v 1)] 1 (.v 1) (.n 256) rfl (Nat.mod_lt _ (by decide)) (Nat.mod_eq_of_lt (linS [_, _, _, _, _, _, _, _] [.q 256 (.v 0) (.a (.v 1) (.n 1)), .q 1 (.a (.m 256 (.v 2)) (.v 3)) (.v 0), .q 256 (.a (.m 256 (.v 4)) (.v 5)) (.v 2), .r 256 (.a (.m 256 (.v 6)) (.v 7)) (.v 1), .r 256 (.v 5) (.v 7), .q 65536 (.v 6) (.n 0)] 255 (.v 0) (.n 256) rfl hLn (Nat.div_add_mod _ _) (Nat.div_add_mod _ _) (Nat.div_add_mod _ _) a b2))))))
          rw [hLn, Nat.mod_eq_of_lt (show (nm.length + 1) / 256 < 256 by omega), Nat.mod_eq_of_lt b3] at a
          omega
    · have hd : (rowB pl (nm, cr, s)).drop p = [] := List.drop_eq_nil_of_le (by rw [hL]; (exact (linL [_, _] [.l 1 (.a (.n 46) (.v 0)) (.v 1)] 1 (.a (.n 46) (.v 0)) (.v 1) rfl (Nat.le_of_not_lt c))))
      rw [hd, List.take_of_length_le (by rw [hL]; (exact (linL [_, _] [.l 1 (.a (.n 46) (.v 0)) (.v 1)] 1 (.a (.n 46) (.v 0)) (.v 1) rfl (Nat.le_of_not_lt c)))), List.nil_append, List.append_assoc] at h
      obtain ⟨e1, e2⟩ := row_cut w2 w1 h
      rw [e1] at e2
      exact add_rows rs rs' _ _ hn' (fun r hr => h1 r (.tail _ hr)) (fun r hr => h2 r (.tail _ hr)) hc.2 (by simp only [rsize]; (exact (linS [_, _, _, _] [.s 1 (.v 0) (.a (.a (.n 46) (.v 1)) (.v 2)), .q 1 (.a (.v 3) (.a (.n 46) (.v 1))) (.v 0)] 1 (.v 3) (.v 2) rfl hp (Nat.sub_add_cancel (linL [_, _] [.l 1 (.a (.n 46) (.v 0)) (.v 1)] 1 (.a (.n 46) (.v 0)) (.v 1) rfl (Nat.le_of_not_lt c)))))) e2
theorem lose_rows : ∀ (rs rs' : List Row) (pl p : Nat), rs'.length = rs.length → (∀ r ∈ rs, RowOk r ∧ r.1.head? ≠ some 0) → (∀ r ∈ rs', RowOk r) → Clean pl rs → p < rsize rs → rowsB pl rs' = (rowsB pl rs).take p ++ (rowsB pl rs).drop (p + 1) → False
  | [], _, _, p, _, _, _, _, hp, _ => by simp [rsize] at hp
  | r :: rs, [], _, _, h, _, _, _, _, _ => by cases h
  | r :: rs, r' :: rs', pl, p, hn, h1, h2, hc, hp, h => by
    obtain ⟨o1, o0⟩ := h1 r (.head _)
    have w1 := o1.w
    have w2 := (h2 r' (.head _)).w
    have ws : ∀ r ∈ rs, RowW r := fun r hr => (h1 r (.tail _ hr)).1.w
    have hL := rowW_len (pl := pl) w1
    simp only [rsize, List.map_cons, List.sum_cons] at hp
    simp only [rowsB] at h
    rw [List.take_append, List.drop_append, hL] at h
    obtain ⟨nm, cr, s⟩ := r
    obtain ⟨nm', cr', s'⟩ := r'
    simp only at hL h w1 w2 hp o0
    have c4 : cr.length = 4 := w1.2.1
    have hn' : rs'.length = rs.length := by simpa using hn
    by_cases c : p < 46 + nm.length
    · rw [show p - (46 + nm.length) = 0 by (exact (linE [_] [.q 1 (.v 0) (.n 0)] 1 (.v 0) (.n 0) rfl rfl (Nat.sub_eq_zero_of_le (linL [_, _] [.s 1 (.v 0) (.a (.n 46) (.v 1))] 1 (.v 0) (.a (.n 46) (.v 1)) rfl c)))), show p + 1 - (46 + nm.length) = 0 by (exact (linE [_] [.q 1 (.v 0) (.n 0)] 1 (.v 0) (.n 0) rfl rfl (Nat.sub_eq_zero_of_le (linL [_, _] [.s 1 (.v 0) (.a (.n 46) (.v 1))] 1 (.a (.v 0) (.n 1)) (.a (.n 46) (.v 1)) rfl c)))), List.take_zero, List.append_nil, List.drop_zero] at h
      have hH := rowH_len (pl := pl) (r := (nm, cr, s)) c4
      by_cases c2 : 46 ≤ p
      · simp only [rowB] at h
        rw [List.take_append, List.drop_append, hH, List.take_of_length_le (by (exact (linL [_, _] [.q 1 (.v 0) (.n 46), .l 1 (.n 46) (.v 1)] 1 (.v 0) (.v 1) rfl hH c2))), List.drop_eq_nil_of_le (as := rowH pl (nm, cr, s)) (by (exact (linL [_, _] [.q 1 (.v 0) (.n 46), .l 1 (.n 46) (.v 1)] 1 (.v 0) (.a (.v 1) (.n 1)) rfl hH c2))), List.nil_append, List.append_assoc, List.append_assoc] at h
        obtain ⟨e1, e2⟩ := List.append_inj h (by rw [hH, rowH_len w2.2.1])
        have hq : nm'.length = nm.length := by
          simp only [rowH, List.append_assoc] at e1
          have a1 := List.append_cancel_left (List.append_cancel_left e1)
          obtain ⟨c1, a2⟩ := List.append_inj a1 (by rw [show cr.length = 4 from c4, show cr'.length = 4 from w2.2.1])
          obtain ⟨_, a3⟩ := List.append_inj a2 rfl
          obtain ⟨_, a4⟩ := List.append_inj a3 rfl
          obtain ⟨c3, _⟩ := List.append_inj a4 rfl
          exact le2_inj w2.1 w1.1 c3
        have e3 : nm' ++ rowsB (pl + rroom (nm', cr', s')) rs' = (nm.take (p - 46) ++ nm.drop (p + 1 - 46)) ++ rowsB (pl + rroom (nm, cr, s)) rs := by
          rw [e2]; simp
        have hx : (nm.take (p - 46) ++ nm.drop (p + 1 - 46)).length = nm.length - 1 := by
          simp only [List.length_append, List.length_take, List.length_drop]; (exact (linE [_, _, _, _, _, _, _] [.q 1 (.a (.v 0) (.n 46)) (.v 1), .q 1 (.v 2) (.v 0), .r 1 (.a (.v 3) (.n 46)) (.a (.v 1) (.n 1)), .q 1 (.a (.v 4) (.v 3)) (.v 5), .r 1 (.a (.v 6) (.n 1)) (.v 5)] 1 (.a (.v 2) (.v 4)) (.v 6) rfl rfl (Nat.sub_add_cancel (linL [_] [.l 1 (.n 46) (.v 0)] 1 (.n 46) (.v 0) rfl c2)) (Nat.min_eq_left (linL [_, _, _] [.s 1 (.v 0) (.a (.n 46) (.v 1)), .q 1 (.a (.v 2) (.n 46)) (.v 0)] 1 (.v 2) (.v 1) rfl c (Nat.sub_add_cancel (linL [_] [.l 1 (.n 46) (.v 0)] 1 (.n 46) (.v 0) rfl c2)))) (Nat.sub_add_cancel (linL [_] [.l 1 (.n 46) (.v 0)] 1 (.n 46) (.a (.v 0) (.n 1)) rfl c2)) (Nat.sub_add_cancel (linL [_, _, _] [.s 1 (.v 0) (.a (.n 46) (.v 1)), .q 1 (.a (.v 2) (.n 46)) (.a (.v 0) (.n 1))] 1 (.v 2) (.v 1) rfl c (Nat.sub_add_cancel (linL [_] [.l 1 (.n 46) (.v 0)] 1 (.n 46) (.a (.v 0) (.n 1)) rfl c2)))) (Nat.sub_add_cancel (linL [_, _] [.s 1 (.v 0) (.a (.n 46) (.v 1)), .l 1 (.n 46) (.v 0)] 1 (.n 1) (.v 1) rfl c c2))))
        have e4 := congrArg (List.drop nm.length) e3
        rw [List.drop_append, List.drop_append, hx, ← hq, List.drop_length, List.nil_append, Nat.sub_self, List.drop_zero, List.drop_eq_nil_of_le (as := nm.take (p - 46) ++ nm.drop (p + 1 - 46)) (by rw [hx]; (exact (linL [_, _, _] [.r 1 (.v 0) (.v 1), .l 1 (.v 2) (.v 1)] 1 (.v 2) (.v 0) rfl hq (Nat.sub_le _ _)))), show nm'.length - (nm'.length - 1) = 1 by (exact (linE [_, _, _] [.r 1 (.a (.v 0) (.n 1)) (.v 1), .q 1 (.a (.v 2) (.v 0)) (.v 1)] 1 (.v 2) (.n 1) rfl rfl (Nat.sub_add_cancel (linL [_, _, _] [.s 1 (.v 0) (.a (.n 46) (.v 1)), .l 1 (.n 46) (.v 0), .r 1 (.v 2) (.v 1)] 1 (.n 1) (.v 2) rfl c c2 hq)) (Nat.sub_add_cancel (linL [_, _] [.q 1 (.a (.v 0) (.n 1)) (.v 1)] 1 (.v 0) (.v 1) rfl (Nat.sub_add_cancel (linL [_, _, _] [.s 1 (.v 0) (.a (.n 46) (.v 1)), .l 1 (.n 46) (.v 0), .r 1 (.v 2) (.v 1)] 1 (.n 1) (.v 2) rfl c c2 hq)))))), List.nil_append] at e4
        cases rs with
        | nil =>
          have := congrArg List.length e3
          rw [List.length_append, List.length_append, hx] at this
          simp only [rowsB, List.length_nil] at this
          (exact (linF [_, _, _, _] [.r 1 (.v 0) (.v 1), .q 1 (.a (.v 0) (.v 2)) (.a (.v 3) (.n 0)), .q 1 (.a (.v 3) (.n 1)) (.v 1)] rfl hq this (Nat.sub_add_cancel (linL [_, _] [.s 1 (.v 0) (.a (.n 46) (.v 1)), .l 1 (.n 46) (.v 0)] 1 (.n 1) (.v 1) rfl c c2))))
        | cons r2 rs =>
          cases rs' with
          | nil => cases hn'
          | cons r3 rs' =>
            have := congrArg (fun l => l[0]?) e4
            rw [List.getElem?_drop] at this
            have : some (80 : UInt8) = some 75 := this
            exact absurd this (by decide)
      · have hc1 := hc.1
        simp only at hc1
        have c4' : cr'.length = 4 := w2.2.1
        obtain ⟨c0, c1, c2, c3, rfl⟩ := four c4
        obtain ⟨d0, d1, d2, d3, rfl⟩ := four c4'
        have hH := rowH_len (pl := pl) (r := (nm, [c0, c1, c2, c3], s)) rfl
        have hp3 : (pl / 16777216).toUInt8 = 0 := by rw [Nat.div_eq_of_lt (by (exact (linS [_] [.s 1 (.v 0) (.n 19200)] 1 (.v 0) (.n 16777216) rfl hc1.2.2.1)))]; rfl
        cases nm with
        | nil => exact o1.1 rfl
        | cons b nm =>
        simp only [rowB] at h
        rw [List.take_append, List.drop_append, hH, show p - 46 = 0 by (exact (linE [_] [.q 1 (.v 0) (.n 0)] 1 (.v 0) (.n 0) rfl rfl (Nat.sub_eq_zero_of_le (linL [_] [.s 1 (.v 0) (.n 46)] 1 (.v 0) (.n 46) rfl (Nat.lt_of_not_le (by assumption)))))), show p + 1 - 46 = 0 by (exact (linE [_] [.q 1 (.v 0) (.n 0)] 1 (.v 0) (.n 0) rfl rfl (Nat.sub_eq_zero_of_le (linL [_] [.s 1 (.v 0) (.n 46)] 1 (.a (.v 0) (.n 1)) (.n 46) rfl (Nat.lt_of_not_le (by assumption)))))), List.take_zero, List.append_nil, List.drop_zero] at h
        have h' := congrArg (fun l => l[45]?) h
        rw [List.append_assoc, List.getElem?_append_left (by rw [rowH_len rfl]; (exact (linS [] [] 1 (.n 45) (.n 46) rfl))), List.getElem?_append_right (by rw [List.length_take]; (exact (linL [_, _] [.s 1 (.v 0) (.n 46), .q 1 (.v 1) (.v 0)] 1 (.v 1) (.n 45) rfl (Nat.lt_of_not_le (by assumption)) (Nat.min_eq_left (linL [_, _] [.s 1 (.v 0) (.n 46), .r 1 (.v 1) (.n 46)] 1 (.v 0) (.v 1) rfl (Nat.lt_of_not_le (by assumption)) (by assumption)))))), List.getElem?_append_left (by simp only [List.length_append, List.length_drop, List.length_cons, hH, List.length_take]; (exact (linS [_, _, _, _, _] [.r 1 (.v 0) (.v 1), .q 1 (.a (.v 2) (.v 0)) (.n 45), .r 1 (.a (.v 3) (.a (.v 1) (.n 1))) (.n 46)] 1 (.v 2) (.a (.v 3) (.a (.v 4) (.n 1))) rfl (Nat.min_eq_left (linL [_] [.s 1 (.v 0) (.n 46)] 1 (.v 0) (.n 46) rfl (Nat.lt_of_not_le (by assumption)))) (Nat.sub_add_cancel (linL [_, _] [.s 1 (.v 0) (.n 46), .q 1 (.v 1) (.v 0)] 1 (.v 1) (.n 45) rfl (Nat.lt_of_not_le (by assumption)) (Nat.min_eq_left (linL [_] [.s 1 (.v 0) (.n 46)] 1 (.v 0) (.n 46) rfl (Nat.lt_of_not_le (by assumption)))))) (Nat.sub_add_cancel (linL [_] [.s 1 (.v 0) (.n 46)] 1 (.a (.v 0) (.n 1)) (.n 46) rfl (Nat.lt_of_not_le (by assumption))))))), List.getElem?_append_right (by simp only [List.length_drop, hH, List.length_take]; (exact (linL [_, _, _, _] [.q 1 (.a (.v 0) (.a (.v 1) (.n 1))) (.n 46), .q 1 (.v 2) (.v 1), .r 1 (.a (.v 3) (.v 2)) (.n 45)] 1 (.v 0) (.v 3) rfl (Nat.sub_add_cancel (linL [_] [.s 1 (.v 0) (.n 46)] 1 (.a (.v 0) (.n 1)) (.n 46) rfl (Nat.lt_of_not_le (by assumption)))) (Nat.min_eq_left (linL [_] [.s 1 (.v 0) (.n 46)] 1 (.v 0) (.n 46) rfl (Nat.lt_of_not_le (by assumption)))) (Nat.sub_add_cancel (linL [_, _] [.s 1 (.v 0) (.n 46), .q 1 (.v 1) (.v 0)] 1 (.v 1) (.n 45) rfl (Nat.lt_of_not_le (by assumption)) (Nat.min_eq_left (linL [_] [.s 1 (.v 0) (.n 46)] 1 (.v 0) (.n 46) rfl (Nat.lt_of_not_le (by assumption)))))))))] at h'
        rw [List.length_take, List.length_drop, hH, show 45 - min p 46 - (46 - (p + 1)) = 0 by (exact (linE [_, _, _, _, _] [.r 1 (.v 0) (.v 1), .q 1 (.a (.v 2) (.v 0)) (.n 45), .r 1 (.a (.v 3) (.a (.v 1) (.n 1))) (.n 46), .q 1 (.a (.v 4) (.v 3)) (.v 2)] 1 (.v 4) (.n 0) rfl rfl (Nat.min_eq_left (linL [_] [.s 1 (.v 0) (.n 46)] 1 (.v 0) (.n 46) rfl (Nat.lt_of_not_le (by assumption)))) (Nat.sub_add_cancel (linL [_, _] [.s 1 (.v 0) (.n 46), .q 1 (.v 1) (.v 0)] 1 (.v 1) (.n 45) rfl (Nat.lt_of_not_le (by assumption)) (Nat.min_eq_left (linL [_] [.s 1 (.v 0) (.n 46)] 1 (.v 0) (.n 46) rfl (Nat.lt_of_not_le (by assumption)))))) (Nat.sub_add_cancel (linL [_] [.s 1 (.v 0) (.n 46)] 1 (.a (.v 0) (.n 1)) (.n 46) rfl (Nat.lt_of_not_le (by assumption)))) (Nat.sub_add_cancel (linL [_, _, _, _] [.q 1 (.v 0) (.v 1), .r 1 (.a (.v 2) (.v 0)) (.n 45), .q 1 (.a (.v 3) (.a (.v 1) (.n 1))) (.n 46)] 1 (.v 3) (.v 2) rfl (Nat.min_eq_left (linL [_] [.s 1 (.v 0) (.n 46)] 1 (.v 0) (.n 46) rfl (Nat.lt_of_not_le (by assumption)))) (Nat.sub_add_cancel (linL [_, _] [.s 1 (.v 0) (.n 46), .q 1 (.v 1) (.v 0)] 1 (.v 1) (.n 45) rfl (Nat.lt_of_not_le (by assumption)) (Nat.min_eq_left (linL [_] [.s 1 (.v 0) (.n 46)] 1 (.v 0) (.n 46) rfl (Nat.lt_of_not_le (by assumption)))))) (Nat.sub_add_cancel (linL [_] [.s 1 (.v 0) (.n 46)] 1 (.a (.v 0) (.n 1)) (.n 46) rfl (Nat.lt_of_not_le (by assumption))))))))] at h'
        have h' : some (pl / 16777216).toUInt8 = some b := h'
        rw [hp3] at h'
        exact o0 h'.symm
    · have hd : (rowB pl (nm, cr, s)).drop (p + 1) = [] := List.drop_eq_nil_of_le (by rw [hL]; (exact (linL [_, _] [.l 1 (.a (.n 46) (.v 0)) (.v 1)] 1 (.a (.n 46) (.v 0)) (.a (.v 1) (.n 1)) rfl (Nat.le_of_not_lt c))))
      rw [hd, List.take_of_length_le (by rw [hL]; (exact (linL [_, _] [.l 1 (.a (.n 46) (.v 0)) (.v 1)] 1 (.a (.n 46) (.v 0)) (.v 1) rfl (Nat.le_of_not_lt c)))), List.nil_append, List.append_assoc, show p + 1 - (46 + nm.length) = p - (46 + nm.length) + 1 by (exact (linE [_, _, _, _] [.q 1 (.a (.v 0) (.a (.n 46) (.v 1))) (.a (.v 2) (.n 1)), .r 1 (.a (.v 3) (.a (.n 46) (.v 1))) (.v 2)] 1 (.v 0) (.a (.v 3) (.n 1)) rfl rfl (Nat.sub_add_cancel (linL [_, _] [.l 1 (.a (.n 46) (.v 0)) (.v 1)] 1 (.a (.n 46) (.v 0)) (.a (.v 1) (.n 1)) rfl (Nat.le_of_not_lt c))) (Nat.sub_add_cancel (linL [_, _] [.l 1 (.a (.n 46) (.v 0)) (.v 1)] 1 (.a (.n 46) (.v 0)) (.v 1) rfl (Nat.le_of_not_lt c)))))] at h
      obtain ⟨e1, e2⟩ := row_cut w2 w1 h
      rw [e1] at e2
      exact lose_rows rs rs' _ _ hn' (fun r hr => h1 r (.tail _ hr)) (fun r hr => h2 r (.tail _ hr)) hc.2 (by simp only [rsize]; (exact (linS [_, _, _, _] [.s 1 (.v 0) (.a (.a (.n 46) (.v 1)) (.v 2)), .q 1 (.a (.v 3) (.a (.n 46) (.v 1))) (.v 0)] 1 (.v 3) (.v 2) rfl hp (Nat.sub_add_cancel (linL [_, _] [.l 1 (.a (.n 46) (.v 0)) (.v 1)] 1 (.a (.n 46) (.v 0)) (.v 1) rfl (Nat.le_of_not_lt c)))))) e2
section
variable {es : List Ent} {p : Nat} {v : UInt8}
theorem add_mid (hf : Fit es) (hg : good es = true) (hl : (arc es).length + 1 ≤ 16777216) (hc : Clean 0 (es.map rowOf)) (hp : p < (middle 0 es).length) :
    dirP (front es ++ ((middle 0 es).take p ++ v :: (middle 0 es).drop p) ++ endB es.length ((middle 0 es).length + 1) (front es).length) = none := by
  have g := arc_gram hf hg
  have hal := arc_len es
  have hm := middle_len hf
  have hx : ((middle 0 es).take p ++ v :: (middle 0 es).drop p).length = (middle 0 es).length + 1 := by
    simp only [List.length_append, List.length_cons, List.length_take, List.length_drop]; (exact (linE [_, _, _, _] [.q 1 (.v 0) (.v 1), .q 1 (.a (.v 2) (.v 1)) (.v 3)] 1 (.a (.v 0) (.a (.v 2) (.n 1))) (.a (.v 3) (.n 1)) rfl rfl (Nat.min_eq_left (linL [_, _] [.s 1 (.v 0) (.v 1)] 1 (.v 0) (.v 1) rfl hp)) (Nat.sub_add_cancel (linL [_, _] [.s 1 (.v 0) (.v 1)] 1 (.v 0) (.v 1) rfl hp))))
  refine dir_none fun pre rs g' => ?_
  obtain ⟨a1, a2, a3, a4⟩ := g'.parts (by have := hf.1; (exact (linS [_] [.s 1 (.v 0) (.n 65536)] 1 (.v 0) (.n 65536) rfl this))) (by rw [hx]; (exact (linL [_, _, _] [.l 1 (.a (.v 0) (.n 1)) (.n 16777216), .r 1 (.v 0) (.a (.a (.v 1) (.v 2)) (.n 22))] 1 (.a (.v 1) (.a (.v 2) (.n 1))) (.n 16777216) rfl hl hal))) rfl hx
  rw [middle_rows] at a2
  exact add_rows (es.map rowOf) rs 0 p (by rw [a3, List.length_map]) g.ok g'.ok hc (by (exact (linS [_, _, _] [.s 1 (.v 0) (.v 1), .q 1 (.v 1) (.v 2)] 1 (.v 0) (.v 2) rfl hp hm))) a2
theorem lose_mid (hf : Fit es) (hg : good es = true) (hl : (arc es).length ≤ 16777216) (hc : Clean 0 (es.map rowOf)) (hz : ∀ e ∈ es, e.1.head? ≠ some 0) (hp : p < (middle 0 es).length) :
    dirP (front es ++ ((middle 0 es).take p ++ (middle 0 es).drop (p + 1)) ++ endB es.length ((middle 0 es).length - 1) (front es).length) = none := by
  have g := arc_gram hf hg
  have hal := arc_len es
  have hm := middle_len hf
  have hx : ((middle 0 es).take p ++ (middle 0 es).drop (p + 1)).length = (middle 0 es).length - 1 := by
    simp only [List.length_append, List.length_take, List.length_drop]; (exact (linE [_, _, _, _, _] [.q 1 (.v 0) (.v 1), .q 1 (.a (.v 2) (.a (.v 1) (.n 1))) (.v 3), .r 1 (.a (.v 4) (.n 1)) (.v 3)] 1 (.a (.v 0) (.v 2)) (.v 4) rfl rfl (Nat.min_eq_left (linL [_, _] [.s 1 (.v 0) (.v 1)] 1 (.v 0) (.v 1) rfl hp)) (Nat.sub_add_cancel (linL [_, _] [.s 1 (.v 0) (.v 1)] 1 (.a (.v 0) (.n 1)) (.v 1) rfl hp)) (Nat.sub_add_cancel (linL [_, _] [.s 1 (.v 0) (.v 1)] 1 (.n 1) (.v 1) rfl hp))))
  refine dir_none fun pre rs g' => ?_
  obtain ⟨a1, a2, a3, a4⟩ := g'.parts (by have := hf.1; (exact (linS [_] [.s 1 (.v 0) (.n 65536)] 1 (.v 0) (.n 65536) rfl this))) (by rw [hx]; (exact (linL [_, _, _, _] [.l 1 (.v 0) (.n 16777216), .r 1 (.v 0) (.a (.a (.v 1) (.v 2)) (.n 22)), .q 1 (.a (.v 3) (.n 1)) (.v 2)] 1 (.a (.v 1) (.v 3)) (.n 16777216) rfl hl hal (Nat.sub_add_cancel (linL [_, _] [.s 1 (.v 0) (.v 1)] 1 (.n 1) (.v 1) rfl hp))))) rfl hx
  rw [middle_rows] at a2
  refine lose_rows (es.map rowOf) rs 0 p (by rw [a3, List.length_map]) (fun r hr => ⟨g.ok r hr, ?_⟩) g'.ok hc (by (exact (linS [_, _, _] [.s 1 (.v 0) (.v 1), .q 1 (.v 1) (.v 2)] 1 (.v 0) (.v 2) rfl hp hm))) a2
  obtain ⟨e, he, rfl⟩ := List.mem_map.mp hr
  exact hz e he
theorem mend_front {F : Bs} (hf : Fit es) (hl : F.length + (middle 0 es).length ≤ 16777216) (hF : F.length ≠ (front es).length) :
    dirP (F ++ middle 0 es ++ endB es.length (middle 0 es).length F.length) = none := by
  refine dir_none fun pre rs g' => ?_
  obtain ⟨a1, a2, a3, a4⟩ := g'.parts (by have := hf.1; (exact (linS [_] [.s 1 (.v 0) (.n 65536)] 1 (.v 0) (.n 65536) rfl this))) hl rfl rfl
  rw [middle_rows] at a2
  have := rowsB_uniq _ _ _ g'.w (rows_w hf) a2
  rw [this, tot_rows] at a4
  (exact ((Nat.lt_or_gt_of_ne hF).elim (fun y4 => (linF [_, _] [.q 1 (.v 0) (.v 1), .s 1 (.v 1) (.v 0)] rfl a4 y4)) (fun y4 => (linF [_, _] [.r 1 (.v 0) (.v 1), .s 1 (.v 0) (.v 1)] rfl a4 y4))))
theorem bad_whole (hf : Fit es) (hl : (arc es).length ≤ 16777216) (hg : good es = false) : dirP (arc es) = none := by
  have hal := arc_len es
  refine dir_none fun pre rs g' => ?_
  rw [arc] at g'
  obtain ⟨a1, a2, a3, a4⟩ := g'.parts (by have := hf.1; (exact (linS [_] [.s 1 (.v 0) (.n 65536)] 1 (.v 0) (.n 65536) rfl this))) (by (exact (linL [_, _, _] [.l 1 (.v 0) (.n 16777216), .r 1 (.v 0) (.a (.a (.v 1) (.v 2)) (.n 22))] 1 (.a (.v 1) (.v 2)) (.n 16777216) rfl hl hal))) rfl rfl
  rw [middle_rows] at a2
  have := rowsB_uniq _ _ _ g'.w (rows_w hf) a2
  subst this
  have : good es = true := (good_fresh es []).mpr ⟨fun e he => (g'.ok (rowOf e) (List.mem_map_of_mem he)).1, g'.fr⟩
  rw [hg] at this
  cases this
noncomputable def end2 (here total size off : Nat) : Bs := [80, 75, 5, 6] ++ le2 0 ++ le2 0 ++ le2 here ++ le2 total ++ le4 size ++ le4 off ++ le2 0
end
theorem small_fit {es : List Ent} (h : es.length ≤ 100 ∧ ∀ e ∈ es, e.1.length ≤ 1000 ∧ e.2.length ≤ 19) : Fit es ∧ (front es).length ≤ 1049 * es.length ∧ (middle 0 es).length ≤ 1046 * es.length := by
  have hf : Fit es := ⟨by have := h.1; (exact (linS [_] [.l 1 (.v 0) (.n 100)] 1 (.v 0) (.n 65536) rfl h.1)), fun e he => by have := h.2 e he; (exact (And.intro (linS [_] [.l 1 (.v 0) (.n 1000)] 1 (.v 0) (.n 65536) rfl this.1) (linS [_] [.l 1 (.v 0) (.n 19)] 1 (.v 0) (.n 4294967296) rfl this.2)))⟩
  refine ⟨hf, ?_, ?_⟩
  · rw [front_room]
    have : ∀ (l : List Ent), (∀ e ∈ l, e.1.length ≤ 1000 ∧ e.2.length ≤ 19) → (l.map room).sum ≤ 1049 * l.length := by
      intro l
      induction l with
      | nil => intro _; simp
      | cons e l ih =>
        intro q
        have a := q e (.head _)
        have b := ih fun e he => q e (.tail _ he)
        simp only [List.map_cons, List.sum_cons, List.length_cons, room]
        (exact (linL [_, _, _, _] [.l 1 (.v 0) (.n 1000), .l 1 (.v 1) (.n 19), .l 1 (.v 2) (.m 1049 (.v 3))] 1 (.a (.a (.a (.n 30) (.v 0)) (.v 1)) (.v 2)) (.m 1049 (.a (.v 3) (.n 1))) rfl a.1 a.2 b))
    exact this es h.2
  · rw [middle_len hf]
    have : ∀ (l : List Ent), (∀ e ∈ l, e.1.length ≤ 1000 ∧ e.2.length ≤ 19) → rsize (l.map rowOf) ≤ 1046 * l.length := by
      intro l
      induction l with
      | nil => intro _; simp [rsize]
      | cons e l ih =>
        intro q
        have a := q e (.head _)
        have b := ih fun e he => q e (.tail _ he)
        have c : (rowOf e).1.length = e.1.length := rfl
        simp only [rsize, List.map_cons, List.sum_cons, List.length_cons] at b ⊢
        (exact (linL [_, _, _, _] [.l 1 (.v 0) (.n 1000), .l 1 (.v 1) (.m 1046 (.v 2)), .q 1 (.v 3) (.v 0)] 1 (.a (.a (.n 46) (.v 3)) (.v 1)) (.m 1046 (.a (.v 2) (.n 1))) rfl a.1 b c))
    exact this es h.2
theorem small_clean : ∀ (es : List Ent) (pl : Nat), (∀ e ∈ es, e.1.length ≤ 1000 ∧ e.2.length ≤ 19 ∧ NoPK e.1) → pl + 1049 * es.length ≤ 19000 → Clean pl (es.map rowOf)
  | [], _, _, _ => trivial
  | e :: es, pl, h, hp => by
    have a := h e (.head _)
    rw [List.length_cons] at hp
    refine ⟨⟨?_, ?_, by (exact (linS [_, _] [.l 1 (.a (.v 0) (.m 1049 (.a (.v 1) (.n 1)))) (.n 19000)] 1 (.v 0) (.n 19200) rfl hp)), a.2.2⟩, small_clean es _ (fun e he => h e (.tail _ he)) ?_⟩
    · show e.1.length < _; (exact (linS [_] [.l 1 (.v 0) (.n 1000)] 1 (.v 0) (.n 19200) rfl a.1))
    · show e.2.length < _; (exact (linS [_] [.l 1 (.v 0) (.n 19)] 1 (.v 0) (.n 20) rfl a.2.1))
    · rw [room_row, room]; (exact (linL [_, _, _, _] [.l 1 (.a (.v 0) (.m 1049 (.a (.v 1) (.n 1)))) (.n 19000), .l 1 (.v 2) (.n 1000), .l 1 (.v 3) (.n 19)] 1 (.a (.a (.v 0) (.a (.a (.n 30) (.v 2)) (.v 3))) (.m 1049 (.v 1))) (.n 19000) rfl hp a.1 a.2.1))
theorem xor_two (x y : Nat) : (x ^^^ 2 * y) / 2 = x / 2 ^^^ y := by
  rw [Nat.xor_div_two]; congr 1; (exact (Nat.le_antisymm (linL [_, _, _] [.q 1 (.a (.m 2 (.v 0)) (.v 1)) (.m 2 (.v 2))] 2 (.v 0) (.v 2) rfl (Nat.div_add_mod _ _)) (linL [_, _, _] [.r 1 (.a (.m 2 (.v 0)) (.v 1)) (.m 2 (.v 2)), .s 1 (.v 1) (.n 2)] 2 (.v 2) (.v 0) rfl (Nat.div_add_mod _ _) (Nat.mod_lt _ (by decide)))))
theorem cstep_x (x y : Nat) : cstep (x ^^^ 2 * y) = cstep x ^^^ y := by
  have h : (x ^^^ 2 * y) % 2 = x % 2 := by
    have := Nat.xor_mod_two_pow (a := x) (b := 2 * y) (n := 1)
    rw [Nat.pow_one] at this
    rw [this, Nat.mul_mod_right, Nat.xor_zero]
  unfold cstep
  rw [h, xor_two]
  by_cases c : x % 2 = 1
  · rw [if_pos c, if_pos c, Nat.xor_assoc]
  · rw [if_neg c, if_neg c]
theorem cstep8_x (x y : Nat) : cstep8 (x ^^^ 256 * y) = cstep8 x ^^^ y := by
  unfold cstep8
  rw [show 256 * y = 2 * (2 * (2 * (2 * (2 * (2 * (2 * (2 * y))))))) by (exact (linE [_] [] 1 (.m 256 (.v 0)) (.m 2 (.m 2 (.m 2 (.m 2 (.m 2 (.m 2 (.m 2 (.m 2 (.v 0))))))))) rfl rfl))]
  rw [cstep_x, cstep_x, cstep_x, cstep_x, cstep_x, cstep_x, cstep_x, cstep_x]
theorem low_x (c : Nat) : c = c % 256 ^^^ 256 * (c / 256) := by
  have h := Nat.two_pow_add_eq_or_of_lt (i := 8) (b := c % 256) (Nat.mod_lt _ (by decide)) (c / 256)
  have e : c = 2 ^ 8 * (c / 256) + c % 256 := by (exact (linE [_, _, _] [.r 1 (.a (.m 256 (.v 0)) (.v 1)) (.v 2)] 1 (.v 2) (.a (.m (2 ^ 8) (.v 0)) (.v 1)) rfl rfl (Nat.div_add_mod _ _)))
  have x := xor_and (c % 256) (256 * (c / 256))
  have a : c % 256 &&& 256 * (c / 256) = 0 := by
    apply Nat.eq_of_testBit_eq
    intro i
    rw [Nat.testBit_and, Nat.zero_testBit]
    by_cases q : i < 8
    · rw [show 256 * (c / 256) = 2 ^ 8 * (c / 256) by rfl, Nat.testBit_two_pow_mul]
      simp [show ¬ 8 ≤ i by (exact (fun z0 => (linF [_] [.s 1 (.v 0) (.n 8), .l 1 (.n 8) (.v 0)] rfl q z0)))]
    · rw [show c % 256 = c % 2 ^ 8 by rfl, Nat.testBit_mod_two_pow]
      simp [q]
  rw [a, Nat.or_comm, Nat.add_zero] at x
  rw [x, show 256 * (c / 256) = 2 ^ 8 * (c / 256) by rfl, ← h]
  exact e
theorem crcUp_eq (c : Nat) (b : UInt8) : crcUp c b = cstep8 (c ^^^ b.toNat) := by
  have h := low_x (c ^^^ b.toNat)
  have hd : (c ^^^ b.toNat) / 256 = c / 256 := by
    have := Nat.xor_div_two_pow (a := c) (b := b.toNat) (n := 8)
    rw [show (2 : Nat) ^ 8 = 256 by rfl] at this
    rw [this, Nat.div_eq_of_lt b.toNat_lt, Nat.xor_zero]
  rw [hd] at h
  unfold crcUp
  conv => rhs; rw [h]
  rw [cstep8_x]
noncomputable def numL : Bs → Nat
  | [] => 0
  | b :: t => b.toNat + 256 * numL t
theorem num_fold (d : Bs) : d.reverse.foldl (fun (v : Nat) (b : UInt8) => v * 256 + b.toNat) 0 = numL d := by
  induction d with
  | nil => rfl
  | cons b t ih => rw [List.reverse_cons, List.foldl_append, ih]; simp only [List.foldl_cons, List.foldl_nil, numL]; (exact (linE [_, _] [] 1 (.a (.t (.v 0) 256) (.v 1)) (.a (.v 1) (.m 256 (.v 0))) rfl rfl))
noncomputable def iter : Nat → Nat → Nat
  | 0, x => x
  | n + 1, x => cstep (iter n x)
theorem iter_add (m n x : Nat) : iter (m + n) x = iter m (iter n x) := by
  induction m with
  | zero => rw [Nat.zero_add]; rfl
  | succ m ih => rw [Nat.succ_add, iter, ih]; rfl
theorem iter_crc : ∀ (d : Bs) (c : Nat), iter (8 * d.length) (c ^^^ numL d) = crcRun c d
  | [], c => by simp [iter, numL, crcRun]
  | b :: d, c => by
    rw [List.length_cons, show 8 * (d.length + 1) = 8 * d.length + 8 by (exact (linE [_] [] 1 (.m 8 (.a (.v 0) (.n 1))) (.a (.m 8 (.v 0)) (.n 8)) rfl rfl)), iter_add]
    have h : iter 8 (c ^^^ numL (b :: d)) = crcUp c b ^^^ numL d := by
      show cstep8 (c ^^^ numL (b :: d)) = _
      have e : numL (b :: d) = b.toNat ^^^ 256 * numL d := by
        have := low_x (numL (b :: d))
        have hb := b.toNat_lt
        rw [show numL (b :: d) % 256 = b.toNat by simp only [numL]; omega, show numL (b :: d) / 256 = numL d by simp only [numL]; (exact (Nat.le_antisymm (linL [_, _, _, _] [.s 1 (.v 0) (.n (2 ^ 8)), .q 1 (.a (.m 256 (.v 1)) (.v 2)) (.a (.v 0) (.m 256 (.v 3)))] 256 (.v 1) (.v 3) rfl hb (Nat.div_add_mod _ _)) (linL [_, _, _, _] [.r 1 (.a (.m 256 (.v 0)) (.v 1)) (.a (.v 2) (.m 256 (.v 3))), .s 1 (.v 1) (.n 256)] 256 (.v 3) (.v 0) rfl (Nat.div_add_mod _ _) (Nat.mod_lt _ (by decide)))))] at this
        exact this
      rw [e, ← Nat.xor_assoc, cstep8_x, crcUp_eq]
    rw [h, iter_crc d]
    rfl
noncomputable def cg (v k : Nat) : Nat := if v / 2 ^ k % 2 = 1 then v ^^^ 7976584769 * 2 ^ k else v
theorem cg_step (v k : Nat) : cg v k / 2 ^ (k + 1) = cstep (v / 2 ^ k) := by
  unfold cg cstep
  rw [Nat.pow_succ, ← Nat.div_div_eq_div_mul]
  by_cases c : v / 2 ^ k % 2 = 1
  · rw [if_pos c, if_pos c, Nat.xor_div_two_pow, Nat.mul_div_cancel _ (Nat.two_pow_pos k), Nat.xor_div_two, Nat.xor_comm]
  · rw [if_neg c, if_neg c]
theorem cg_fold (v : Nat) : ∀ n, (List.range n).foldl cg v / 2 ^ n = iter n v
  | 0 => by simp [iter]
  | n + 1 => by
    rw [List.range_succ, List.foldl_append]
    show cg _ n / _ = _
    rw [cg_step, cg_fold v n]; rfl
theorem crc_long (d : Bs) : (List.range (8 * d.length)).foldl cg (numL d ^^^ 4294967295) / 2 ^ (8 * d.length) ^^^ 4294967295 = crc d := by
  rw [cg_fold, Nat.xor_comm (numL d), iter_crc]; rfl
noncomputable def cb (b : Nat) (c j : Nat) : Nat := if (c ^^^ b / 2 ^ j) % 2 = 1 then c / 2 ^^^ 3988292384 else c / 2
noncomputable def md (x : Int) (b : Nat) : Nat := (x % (b : Int)).toNat
theorem md_lt (x : Int) {b : Nat} (h : 0 < b) : md x b < b := by
  have h1 := Int.emod_lt_of_pos x (show (0 : Int) < b by omega)
  have h2 := Int.emod_nonneg x (show (b : Int) ≠ 0 by (exact (iNe (fun z0 => (linF [_] [.s 1 (.n 0) (.v 0), .q 1 (.v 0) (.n 0)] rfl h z0)))))
  unfold md; omega
theorem bin_md (x : Int) (b : Nat) (h : b ≠ 0) (h' : b < 1073741824) : binop .Mod (.int x) (.int (b : Int)) = some (.int (md x b : Nat)) := bin_modZ b x h h'
theorem bin_pow (a b : Nat) (h : b ≤ 1000000) (h' : a < 2 ^ 64) : binop .Pow (.int (a : Int)) (.int (b : Int)) = some (.int ((a ^ b : Nat) : Int)) := by
  have h : (0 : Int) ≤ b ∧ (b : Int) ≤ 1000000 ∧ (a : Int).natAbs < 2 ^ 64 := ⟨by (exact (i0 _)), by (exact (iLe (k := 1000000) (linL [_] [.l 1 (.v 0) (.n 1000000)] 1 (.v 0) (.n 1000000) rfl h))), by simpa using h'⟩
  refine Eq.trans (if_pos h) ?_
  rw [Int.toNat_natCast]
  congr 2
theorem bin_rep {b : Bs} {n : Nat} (h0 : b ≠ []) (h1 : b.length ≤ 16) (h2 : n ≤ 1048576) : binop .Mult (.bytes b) (.int (n : Int)) = some (.bytes (List.replicate n b).flatten) := by
  have h : b ≠ [] ∧ b.length ≤ 16 ∧ (0 : Int) ≤ n ∧ (n : Int) ≤ 1048576 := ⟨h0, h1, by (exact (i0 _)), by (exact (iLe (k := 1048576) (linL [_] [.l 1 (.v 0) (.n 1048576)] 1 (.v 0) (.n 1048576) rfl h2)))⟩
  refine Eq.trans (if_pos h) ?_
  rw [Int.toNat_natCast]
theorem rep_one (n : Nat) (x : UInt8) : (List.replicate n [x]).flatten = List.replicate n x := by
  induction n with
  | zero => rfl
  | succ n ih => rw [List.replicate_succ, List.flatten_cons, ih]; rfl
theorem rev_b {b : Bs} (h : b.length ≤ 16777216) : revP (.bytes b) = some (.bytes b.reverse) := by
  exact if_pos h
theorem eqB (n : Nat) (a b : Bs) : eqF n (.bytes a) (.bytes b) = some (decide (a = b)) := by
  have : (a == b) = decide (a = b) := by by_cases h : a = b <;> simp [h]
  cases n <;> (show some (a == b) = _; rw [this])
theorem eqL_names (n : Nat) : ∀ (l k : List Bs), eqL (eqF n) (bytesP' l) (bytesP' k) = some (decide (l = k))
  | [], [] => rfl
  | [], _ :: _ => rfl
  | _ :: _, [] => rfl
  | a :: l, b :: k => by
    show (match eqF n (.bytes a) (.bytes b), eqL (eqF n) (bytesP' l) (bytesP' k) with
      | some x, some y => some (x && y)
      | _, _ => Option.none) = _
    rw [eqB, eqL_names n l k]
    simp only [List.cons.injEq, Bool.decide_and]
theorem eq_names (l k : List Bs) : eqP (.list (bytesP' l)) (.list (bytesP' k)) = some (decide (l = k)) := by
  show (if (bytesP' l).length = (bytesP' k).length then eqL (eqF 7) (bytesP' l) (bytesP' k) else some false) = _
  rw [eqL_names]
  by_cases h : (bytesP' l).length = (bytesP' k).length
  · rw [if_pos h]
  · rw [if_neg h]
    have : l ≠ k := fun q => h (by rw [q])
    simp [this]
theorem eqE (n : Nat) (a b : Ent) : eqF (n + 1) (entP a) (entP b) = some (decide (a = b)) := by
  obtain ⟨a1, a2⟩ := a
  obtain ⟨b1, b2⟩ := b
  show eqL (eqF n) (bytesP' [a1, a2]) (bytesP' [b1, b2]) = _
  rw [eqL_names]
  simp only [List.cons.injEq, Prod.mk.injEq, and_true]
theorem eqL_ents (n : Nat) : ∀ (l k : List Ent), eqL (eqF (n + 1)) (l.map entP) (k.map entP) = some (decide (l = k))
  | [], [] => rfl
  | [], _ :: _ => rfl
  | _ :: _, [] => rfl
  | a :: l, b :: k => by
    show (match eqF (n + 1) (entP a) (entP b), eqL (eqF (n + 1)) (l.map entP) (k.map entP) with
      | some x, some y => some (x && y)
      | _, _ => Option.none) = _
    rw [eqE, eqL_ents n l k]
    simp only [List.cons.injEq, Bool.decide_and]
theorem eq_ents (l k : List Ent) : eqP (.list (l.map entP)) (.list (k.map entP)) = some (decide (l = k)) := by
  show (if (l.map entP).length = (k.map entP).length then eqL (eqF 7) (l.map entP) (k.map entP) else some false) = _
  rw [eqL_ents]
  by_cases h : (l.map entP).length = (k.map entP).length
  · rw [if_pos h]
  · rw [if_neg h]
    have : l ≠ k := fun q => h (by rw [q])
    simp [this]
theorem cmp_neNames (l k : List Bs) : cmpop .NotEq (.list (bytesP' l)) (.list (bytesP' k)) = some (decide (l ≠ k)) := by
  show (eqP (.list (bytesP' l)) (.list (bytesP' k))).map (!·) = _
  rw [eq_names, Option.map_some]
  by_cases h : l = k <;> simp [h]
theorem cmp_neEnts (l k : List Ent) : cmpop .NotEq (.list (l.map entP)) (.list (k.map entP)) = some (decide (l ≠ k)) := by
  show (eqP (.list (l.map entP)) (.list (k.map entP))).map (!·) = _
  rw [eq_ents, Option.map_some]
  by_cases h : l = k <;> simp [h]
theorem mem_names (x : Bs) : ∀ l : List Bs, memP (.bytes x) (bytesP' l) = some (decide (x ∈ l))
  | [] => rfl
  | y :: l => by
    show (match eqP (.bytes y) (.bytes x), memP (.bytes x) (bytesP' l) with
      | some a, some b => some (a || b)
      | _, _ => Option.none) = _
    rw [eqP, eqB, mem_names x l]
    simp only [List.mem_cons, Bool.decide_or]
    congr 2
    by_cases h : y = x
    · simp [h]
    · simp [h, Ne.symm h]
theorem in_names (x : Bs) (l : List Bs) : inOwn (.bytes x) (.own (bytesP' l)) = some (decide (x ∈ l)) := mem_names x l
theorem cmp_neO (a b : Bool) : cmpop .NotEq (.bool a) (.bool b) = some (a != b) := by
  cases a <;> cases b <;> rfl
theorem cmp_leZ (a b : Int) : cmpop .LtE (.int a) (.int b) = some (decide (a ≤ b)) := rfl
theorem cmp_ltZ (a b : Int) : cmpop .Lt (.int a) (.int b) = some (decide (a < b)) := rfl
noncomputable def cell (ns : List Int) (k : Nat) : Int := ns.getD k 0
theorem sc_item {ns : List Int} {k m : Nat} (hk : Nat.blt k m = true) (h : m ≤ ns.length) (hl : ns.length ≤ 63) : itemP (.list (ns.map .int)) (.int (k : Int)) = some (.int (cell ns k)) := by
  have hk' : k < m := Nat.le_of_ble_eq_true hk
  refine item_l ?_ (by rw [List.length_map]; (exact (linL [_] [.l 1 (.v 0) (.n 63)] 1 (.v 0) (.n 16777216) rfl hl)))
  rw [List.getElem?_map, cell, List.getD, List.getElem?_eq_getElem (by (exact (linS [_, _, _] [.l 1 (.v 0) (.v 1), .s 1 (.v 2) (.v 0)] 1 (.v 2) (.v 1) rfl h hk')))]
  rfl
theorem ab_nats (f : Nat → Nat) : ∀ (l : List Nat), (∀ i ∈ l, f i < 256) → allBytes (natsP (l.map f)) = some (l.map fun i => (f i).toUInt8)
  | [], _ => rfl
  | i :: l, h => ab_cons (h i (.head _)) (ab_nats f l fun j hj => h j (.tail _ hj))
theorem byte_back (z : UInt8) : z.toNat.toUInt8 = z := UInt8.toNat_inj.mp (by simp)
theorem natsP_len (l : List Nat) : (natsP l).length = l.length := by simp [natsP]
theorem take_at {X Y Z : Bs} {p : Nat} (hp : p ≤ Y.length) : (X ++ Y ++ Z).take (X.length + p) = X ++ Y.take p := by
  rw [List.append_assoc, List.take_append, List.take_of_length_le (by (exact (linL [_, _] [] 1 (.v 0) (.a (.v 0) (.v 1)) rfl))), Nat.add_sub_cancel_left, List.take_append, show p - Y.length = 0 by (exact (linE [_] [.q 1 (.v 0) (.n 0)] 1 (.v 0) (.n 0) rfl rfl (Nat.sub_eq_zero_of_le (linL [_, _] [.l 1 (.v 0) (.v 1)] 1 (.v 0) (.v 1) rfl hp))))]
  simp
theorem drop_at {X Y Z : Bs} {p : Nat} (hp : p ≤ Y.length) : (X ++ Y ++ Z).drop (X.length + p) = Y.drop p ++ Z := by
  rw [List.append_assoc, List.drop_append, List.drop_eq_nil_of_le (by (exact (linL [_, _] [] 1 (.v 0) (.a (.v 0) (.v 1)) rfl))), List.nil_append, Nat.add_sub_cancel_left, List.drop_append, show p - Y.length = 0 by (exact (linE [_] [.q 1 (.v 0) (.n 0)] 1 (.v 0) (.n 0) rfl rfl (Nat.sub_eq_zero_of_le (linL [_, _] [.l 1 (.v 0) (.v 1)] 1 (.v 0) (.v 1) rfl hp))))]
  simp
theorem lose_at {X Y Z : Bs} {p : Nat} (hp : p < Y.length) : X ++ (Y.take p ++ Y.drop (p + 1)) ++ Z = (X ++ Y ++ Z).take (X.length + p) ++ (X ++ Y ++ Z).drop (X.length + p + 1) := by
  rw [take_at (by (exact (linL [_, _] [.s 1 (.v 0) (.v 1)] 1 (.v 0) (.v 1) rfl hp))), Nat.add_assoc, drop_at (by (exact (linL [_, _] [.s 1 (.v 0) (.v 1)] 1 (.a (.v 0) (.n 1)) (.v 1) rfl hp)))]; simp
theorem add_at {X Y Z : Bs} {p : Nat} {v : UInt8} (hp : p < Y.length) : X ++ (Y.take p ++ v :: Y.drop p) ++ Z = (X ++ Y ++ Z).take (X.length + p) ++ v :: (X ++ Y ++ Z).drop (X.length + p) := by
  rw [take_at (by (exact (linL [_, _] [.s 1 (.v 0) (.v 1)] 1 (.v 0) (.v 1) rfl hp))), drop_at (by (exact (linL [_, _] [.s 1 (.v 0) (.v 1)] 1 (.v 0) (.v 1) rfl hp)))]; simp
theorem set_at {d : Bs} {p : Nat} {v : UInt8} (hp : p < d.length) : d.take p ++ [v] ++ d.drop (p + 1) = d.set p v := by
  rw [List.set_eq_take_append_cons_drop, if_pos hp, List.append_assoc]; rfl
structure Good (es : List Ent) : Prop where
  n : es.length ≤ 4
  sm : ∀ e ∈ es, e.1.length ≤ 1000 ∧ e.2.length ≤ 19 ∧ NoPK e.1
  g : good es = true
namespace Good
variable {es : List Ent} (G : Good es)
include G
theorem fit : Fit es := (small_fit ⟨by have := G.n; (exact (linL [_] [.l 1 (.v 0) (.n 4)] 1 (.v 0) (.n 100) rfl this)), fun e he => ⟨(G.sm e he).1, (G.sm e he).2.1⟩⟩).1
theorem fl : (front es).length ≤ 4196 := by
  have := (small_fit ⟨by have := G.n; (exact (linL [_] [.l 1 (.v 0) (.n 4)] 1 (.v 0) (.n 100) rfl this)), fun e he => ⟨(G.sm e he).1, (G.sm e he).2.1⟩⟩).2.1
  have := G.n; (exact (linL [_, _] [.l 1 (.v 0) (.m 1049 (.v 1)), .l 1049 (.v 1) (.n 4)] 1 (.v 0) (.n 4196) rfl (by assumption) this))
theorem ml : (middle 0 es).length ≤ 4184 := by
  have := (small_fit ⟨by have := G.n; (exact (linL [_] [.l 1 (.v 0) (.n 4)] 1 (.v 0) (.n 100) rfl this)), fun e he => ⟨(G.sm e he).1, (G.sm e he).2.1⟩⟩).2.2
  have := G.n; (exact (linL [_, _] [.l 1 (.v 0) (.m 1046 (.v 1)), .l 1046 (.v 1) (.n 4)] 1 (.v 0) (.n 4184) rfl (by assumption) this))
theorem al : (arc es).length ≤ 8402 := by have := arc_len es; have := G.fl; have := G.ml; (exact (linL [_, _, _] [.q 1 (.v 0) (.a (.a (.v 1) (.v 2)) (.n 22)), .l 1 (.v 1) (.n 4196), .l 1 (.v 2) (.n 4184)] 1 (.v 0) (.n 8402) rfl (by assumption) (by assumption) this))
theorem cl : Clean 0 (es.map rowOf) := small_clean es 0 G.sm (by have := G.n; (exact (linL [_] [.l 1049 (.v 0) (.n 4)] 1 (.a (.n 0) (.m 1049 (.v 0))) (.n 19000) rfl this)))
theorem gr : Gram (arc es) (front es) (es.map rowOf) := arc_gram G.fit G.g
end Good
noncomputable def Tells (d : Bs) (l : Option (List Bs)) : Prop := readP d = none ∧ tellN (dirP d) = l ∧ d.length ≤ 100000
theorem Tells.no {d : Bs} (h : dirP d = none) (hl : d.length ≤ 100000) : Tells d none := ⟨read_none h, by rw [h]; rfl, hl⟩
section
variable {es : List Ent} (G : Good es) {p : Nat} {v : UInt8}
include G
theorem t_turn0 (hp : p < (front es).length) (hv : (front es)[p]? ≠ some v) : Tells ((front es).set p v ++ middle 0 es ++ tailB es) (some (es.map (·.1))) := by
  have h := turn_front G.fit G.g (by have := G.al; (exact (linL [_] [.l 1 (.v 0) (.n 8402)] 1 (.v 0) (.n 16777216) rfl this))) hp hv
  refine ⟨h.1, h.2, ?_⟩
  have := G.fl; have := G.ml
  simp only [List.length_append, List.length_set, tailB, endB_length]; (exact (linL [_, _] [.l 1 (.v 0) (.n 4196), .l 1 (.v 1) (.n 4184)] 1 (.a (.a (.v 0) (.v 1)) (.n 22)) (.n 100000) rfl (by assumption) this))
theorem t_turn1 (hp : p < (middle 0 es).length) (hv : (middle 0 es)[p]? ≠ some v) : Tells (front es ++ (middle 0 es).set p v ++ tailB es) (noDup (namesAfter (es.map (·.1)) p v)) := by
  have h := turn_mid G.fit G.g (by have := G.al; (exact (linL [_] [.l 1 (.v 0) (.n 8402)] 1 (.v 0) (.n 16777216) rfl this))) G.cl hp hv
  refine ⟨h.1, h.2, ?_⟩
  have := G.fl; have := G.ml
  simp only [List.length_append, List.length_set, tailB, endB_length]; (exact (linL [_, _] [.l 1 (.v 0) (.n 4196), .l 1 (.v 1) (.n 4184)] 1 (.a (.a (.v 0) (.v 1)) (.n 22)) (.n 100000) rfl (by assumption) this))
theorem t_turn2 (hp : p < 22) (hv : (tailB es)[p]? ≠ some v) : Tells (front es ++ middle 0 es ++ (tailB es).set p v) none := by
  have := G.fl; have := G.ml; have := G.fit.1
  refine .no (turn_end (by (exact (linS [_] [.s 1 (.v 0) (.n 65536)] 1 (.v 0) (.n 65536) rfl this))) (by rw [List.length_append]; (exact (linL [_, _] [.l 1 (.v 0) (.n 4196), .l 1 (.v 1) (.n 4184)] 1 (.a (.v 0) (.v 1)) (.n 16777216) rfl (by assumption) (by assumption)))) (by rw [List.length_append]; (exact (linE [_, _] [] 1 (.a (.v 0) (.v 1)) (.a (.v 1) (.v 0)) rfl rfl))) hp hv) ?_
  simp only [List.length_append, List.length_set, tailB, endB_length]; (exact (linL [_, _] [.l 1 (.v 0) (.n 4196), .l 1 (.v 1) (.n 4184)] 1 (.a (.a (.v 0) (.v 1)) (.n 22)) (.n 100000) rfl (by assumption) (by assumption)))
theorem t_lose (hp : p < (arc es).length) : Tells ((arc es).take p ++ (arc es).drop (p + 1)) none := by
  have := G.al
  refine .no (lose_dir (by (exact (linL [_] [.l 1 (.v 0) (.n 8402)] 1 (.v 0) (.n 16777216) rfl this))) G.gr hp) ?_
  simp only [List.length_append, List.length_take, List.length_drop]; (exact (linL [_, _, _, _] [.l 1 (.v 0) (.n 8402), .q 1 (.v 1) (.v 2), .q 1 (.a (.v 3) (.a (.v 2) (.n 1))) (.v 0)] 1 (.a (.v 1) (.v 3)) (.n 100000) rfl this (Nat.min_eq_left (linL [_, _] [.s 1 (.v 0) (.v 1)] 1 (.v 0) (.v 1) rfl hp)) (Nat.sub_add_cancel (linL [_, _] [.s 1 (.v 0) (.v 1)] 1 (.a (.v 0) (.n 1)) (.v 1) rfl hp))))
theorem t_add (hp : p < (arc es).length) : Tells ((arc es).take p ++ v :: (arc es).drop p) none := by
  have := G.al
  refine .no (add_dir (by (exact (linL [_] [.l 1 (.v 0) (.n 8402)] 1 (.a (.v 0) (.n 1)) (.n 16777216) rfl this))) G.gr hp) ?_
  simp only [List.length_append, List.length_cons, List.length_take, List.length_drop]; (exact (linL [_, _, _, _] [.l 1 (.v 0) (.n 8402), .q 1 (.v 1) (.v 2), .q 1 (.a (.v 3) (.v 2)) (.v 0)] 1 (.a (.v 1) (.a (.v 3) (.n 1))) (.n 100000) rfl this (Nat.min_eq_left (linL [_, _] [.s 1 (.v 0) (.v 1)] 1 (.v 0) (.v 1) rfl hp)) (Nat.sub_add_cancel (linL [_, _] [.s 1 (.v 0) (.v 1)] 1 (.v 0) (.v 1) rfl hp))))
theorem t_mend {F : Bs} (hl : F.length ≤ 5000) (hF : F.length ≠ (front es).length) : Tells (F ++ middle 0 es ++ endB es.length (middle 0 es).length F.length) none := by
  have := G.ml
  refine .no (mend_front G.fit (by (exact (linL [_, _] [.l 1 (.v 0) (.n 5000), .l 1 (.v 1) (.n 4184)] 1 (.a (.v 0) (.v 1)) (.n 16777216) rfl hl this))) hF) ?_
  simp only [List.length_append, endB_length]; (exact (linL [_, _] [.l 1 (.v 0) (.n 5000), .l 1 (.v 1) (.n 4184)] 1 (.a (.a (.v 0) (.v 1)) (.n 22)) (.n 100000) rfl hl this))
theorem t_lose0 (hp : p < (front es).length) : Tells ((front es).take p ++ (front es).drop (p + 1) ++ middle 0 es ++ tailB es) none := by
  have := lose_at (X := []) (Y := front es) (Z := middle 0 es ++ tailB es) hp
  simp only [List.nil_append, List.length_nil, Nat.zero_add] at this
  rw [List.append_assoc _ (middle 0 es), this, ← List.append_assoc]
  exact t_lose G (by have := arc_len es; (exact (linS [_, _, _, _] [.s 1 (.v 0) (.v 1), .r 1 (.v 2) (.a (.a (.v 1) (.v 3)) (.n 22))] 1 (.v 0) (.v 2) rfl hp this)))
theorem t_lose1 (hp : p < (middle 0 es).length) : Tells (front es ++ ((middle 0 es).take p ++ (middle 0 es).drop (p + 1)) ++ tailB es) none := by
  rw [lose_at hp]
  exact t_lose G (by have := arc_len es; (exact (linS [_, _, _, _] [.s 1 (.v 0) (.v 1), .r 1 (.v 2) (.a (.a (.v 3) (.v 1)) (.n 22))] 1 (.a (.v 3) (.v 0)) (.v 2) rfl hp this)))
theorem t_lose2 (hp : p < (tailB es).length) : Tells (front es ++ middle 0 es ++ ((tailB es).take p ++ (tailB es).drop (p + 1))) none := by
  have := lose_at (X := front es ++ middle 0 es) (Y := tailB es) (Z := []) hp
  simp only [List.append_nil] at this
  rw [this]
  exact t_lose G (by have := arc_len es; have : (tailB es).length = 22 := rfl; rw [List.length_append]; (exact (linS [_, _, _, _, _] [.s 1 (.v 0) (.v 1), .r 1 (.v 2) (.a (.a (.v 3) (.v 4)) (.n 22)), .q 1 (.v 1) (.n 22)] 1 (.a (.a (.v 3) (.v 4)) (.v 0)) (.v 2) rfl hp (by assumption) this)))
theorem t_add0 (hp : p < (front es).length) : Tells ((front es).take p ++ v :: (front es).drop p ++ middle 0 es ++ tailB es) none := by
  have := add_at (X := []) (Y := front es) (Z := middle 0 es ++ tailB es) (v := v) hp
  simp only [List.nil_append, List.length_nil, Nat.zero_add] at this
  rw [List.append_assoc _ (middle 0 es), this, ← List.append_assoc]
  exact t_add G (by have := arc_len es; (exact (linS [_, _, _, _] [.s 1 (.v 0) (.v 1), .r 1 (.v 2) (.a (.a (.v 1) (.v 3)) (.n 22))] 1 (.v 0) (.v 2) rfl hp this)))
theorem t_add1 (hp : p < (middle 0 es).length) : Tells (front es ++ ((middle 0 es).take p ++ v :: (middle 0 es).drop p) ++ tailB es) none := by
  rw [add_at hp]
  exact t_add G (by have := arc_len es; (exact (linS [_, _, _, _] [.s 1 (.v 0) (.v 1), .r 1 (.v 2) (.a (.a (.v 3) (.v 1)) (.n 22))] 1 (.a (.v 3) (.v 0)) (.v 2) rfl hp this)))
theorem t_add2 (hp : p < (tailB es).length) : Tells (front es ++ middle 0 es ++ ((tailB es).take p ++ v :: (tailB es).drop p)) none := by
  have := add_at (X := front es ++ middle 0 es) (Y := tailB es) (Z := []) (v := v) hp
  simp only [List.append_nil] at this
  rw [this]
  exact t_add G (by have := arc_len es; have : (tailB es).length = 22 := rfl; rw [List.length_append]; (exact (linS [_, _, _, _, _] [.s 1 (.v 0) (.v 1), .r 1 (.v 2) (.a (.a (.v 3) (.v 4)) (.n 22)), .q 1 (.v 1) (.n 22)] 1 (.a (.a (.v 3) (.v 4)) (.v 0)) (.v 2) rfl hp (by assumption) this)))
end
set_option maxHeartbeats 1000000
structure C1 (C : Ctx) : Prop extends Cm C where
  entry : C.fns ("_law_entry" : Str) = some (fnOf 20)
  le : C.fns ("_law_le" : Str) = some (fnOf 21)
  lcrc : C.fns ("_law_crc" : Str) = some (fnOf 22)
  lhead : C.fns ("_law_head" : Str) = some (fnOf 23)
  local_ : C.fns ("_law_local" : Str) = some (fnOf 24)
  central : C.fns ("_law_central" : Str) = some (fnOf 25)
  end_ : C.fns ("_law_end" : Str) = some (fnOf 26)
  bad : C.fns ("_law_bad" : Str) = some (fnOf 27)
  after : C.fns ("_law_names_after" : Str) = some (fnOf 28)
  lwrite : C.fns ("_law_write" : Str) = some (fnOf 29)
  lread : C.fns ("_law_read" : Str) = some (fnOf 30)
  llist : C.fns ("_law_list" : Str) = some (fnOf 31)
  areN : C.fns ("_law_are_names" : Str) = some (fnOf 32)
  areE : C.fns ("_law_are_entries" : Str) = some (fnOf 33)
  law : C.fns ("law" : Str) = some (fnOf 34)
  tlist : C.glob ("list" : Str) = some (.type "list")
  tbytes : C.glob ("bytes" : Str) = some (.type "bytes")
  ttuple : C.glob ("tuple" : Str) = some (.type "tuple")
noncomputable def leB (x : Nat) : Nat → Bs
  | 2 => le2 x
  | 4 => le4 x
  | _ => []
theorem leB_2 (x : Nat) : leB x 2 = le2 x := rfl
theorem leB_4 (x : Nat) : leB x 4 = le4 x := rfl
theorem bin_rep2 {b : Bs} (h0 : b ≠ []) (h1 : b.length ≤ 16) : binop .Mult (.bytes b) (.int ((2 : Nat) : Int)) = some (.bytes (b ++ b)) := by
  rw [bin_rep h0 h1 (by (exact (linL [] [] 1 (.n 2) (.n 1048576) rfl)))]; simp [List.replicate]
theorem bin_z10 : binop .Mult (.bytes [0]) (.int ((10 : Nat) : Int)) = some (.bytes [0, 0, 0, 0, 0, 0, 0, 0, 0, 0]) := rfl
local macro_rules | `(tactic| get_elem_tactic) => `(tactic| ((try simp only [List.length_append, List.length_cons, List.length_nil, leB_2, leB_4, le2_length, le4_length, midB_length, cenH_length, endB_length, List.length_take, List.length_drop, List.length_set]); first | exact Nat.le_of_ble_eq_true rfl | omega))
local macro_rules | `(tactic| decreasing_tactic) => `(tactic| first | ((with_reducible refine bin_pow _ _ ?_ ?_) <;> first | decide | assumption | omega) | ((with_reducible refine bin_div _ _ ?_ ?_) <;> first | decide | assumption | omega) | ((with_reducible refine bin_rep2 ?_ ?_) <;> first | (intro q; cases q) | get_elem_tactic) | with_reducible exact bin_z10)
section
variable {C : Ctx}
noncomputable def leS (x w : Nat) (a : List Nat × Slot) : Loc := [("n", .val (.int (x : Nat))), ("width", .val (.int (w : Nat))), ("out", .own (natsP a.1)), ("i", a.2)]
theorem leLoop (M : C1 C) (x w : Nat) (hw : w ≤ 4) {n : Nat} : forL (forT (fnOf 21).body 1) ((ev C (n + 10)).ss (fnOf 21).scope (forB (fnOf 21).body 1)) ((List.range w).map fun (j : Nat) => PV.int (j : Int)) (leS x w ([], .unb)) = .ok (.next, leS x w ((List.range w).foldl (fun a i => (a.1 ++ [x / 256 ^ i % 256], .val (.int (i : Nat)))) ([], .unb))) := by
  refine for_foldI (leS x w) (fun (a : List Nat × Slot) (i : Nat) => (a.1 ++ [x / 256 ^ i % 256], Slot.val (.int (i : Nat)))) (fun (j : Nat) => PV.int (j : Int)) (fun bs a => a.1.length + bs.length ≤ 4 ∧ ∀ i ∈ bs, i < 4) ?_ (List.range w) _ ⟨by simpa using hw, fun i hi => by have := List.mem_range.mp hi; (exact (linS [_, _] [.l 1 (.v 0) (.n 4), .s 1 (.v 1) (.v 0)] 1 (.v 1) (.n 4) rfl hw this))⟩ ?_
  · rintro b bs a ⟨h, h'⟩; refine ⟨?_, fun t ht => h' t (.tail _ ht)⟩; simp at h ⊢; (exact (linL [_, _] [.l 1 (.a (.v 0) (.a (.v 1) (.n 1))) (.n 4)] 1 (.a (.a (.v 0) (.n 1)) (.v 1)) (.n 4) rfl h))
  · rintro i bs a ⟨h, h'⟩
    have h0 := h' i (.head _)
    have p1 : (natsP a.1).length < 16777216 := by rw [natsP_len]; simp at h; (exact (linS [_, _] [.l 1 (.a (.v 0) (.a (.v 1) (.n 1))) (.n 4)] 1 (.v 0) (.n 16777216) rfl h))
    have p2 : i ≤ 1000000 := by (exact (linL [_] [.s 1 (.v 0) (.n 4)] 1 (.v 0) (.n 1000000) rfl h0))
    have p3 : 256 ^ i ≠ 0 := Nat.ne_of_gt (Nat.pow_pos (by decide))
    have p4 : 256 ^ i < 1073741824 := Nat.lt_of_le_of_lt (Nat.pow_le_pow_right (by decide) (show i ≤ 3 by (exact (linL [_] [.s 1 (.v 0) (.n 4)] 1 (.v 0) (.n 3) rfl h0)))) (by decide)
    refine ⟨_, rfl, ?_⟩
    (refine' ss_nextN ?s2 ?e2 ?r2); (case s2 => first | trivial | fail); (case e2 => (try unfold leS); first | ((with_reducible refine' Eq.trans (set_idxC ?jj2) ?jk2); (case jj2 => exact rfl); (case jk2 => dsimp only [List.set_cons_succ, List.set_cons_zero]; try exact rfl)) | ((with_reducible refine' Eq.trans (set_idx2 ?jl2 ?jm2) ?jn2); (case jl2 => exact rfl); (case jm2 => exact rfl); (case jn2 => dsimp only [List.set_cons_succ, List.set_cons_zero]; try exact rfl)) | (simp (config := { decide := true }) only [Loc.set, if_true, if_false]; exact rfl))
    refine ss_end ?_
    simp only [leS, natsP, List.map_append, List.map_cons, List.map_nil]
theorem leFold (x : Nat) (l : List Nat) : ∀ (a : List Nat × Slot), (l.foldl (fun a i => (a.1 ++ [x / 256 ^ i % 256], Slot.val (.int (i : Nat)))) a).1 = a.1 ++ l.map fun i => x / 256 ^ i % 256 := by
  induction l with
  | nil => intro a; simp
  | cons t l ih => intro a; rw [List.foldl_cons, ih]; simp
theorem u8_mod (x : Nat) : (x % 256).toUInt8 = x.toUInt8 := UInt8.toNat_inj.mp (by simp)
theorem le_run (M : C1 C) (x w n : Nat) (hw : w = 2 ∨ w = 4) : (ev C (n + 20)).cl ("_law_le" : Str) [.int (x : Int), .int (w : Int)] = .ok (.bytes (leB x w)) := by
  have M0 := M.toCm
  have hL := leLoop (n := n + 8) M x w (by (exact (Nat.le_of_not_lt fun z0 => (hw.elim (fun y4 => (linF [_] [.s 1 (.n 4) (.v 0), .q 1 (.v 0) (.n 2)] rfl z0 y4)) (fun y4 => (linF [_] [.s 1 (.n 4) (.v 0), .q 1 (.v 0) (.n 4)] rfl z0 y4))))))
  have hF := leFold x (List.range w) ([], .unb)
  generalize (List.range w).foldl (fun a i => (a.1 ++ [x / 256 ^ i % 256], Slot.val (.int (i : Nat)))) ([], .unb) = a at hL hF
  obtain ⟨l, q⟩ := a
  simp only [List.nil_append] at hF
  subst hF
  have hb : builtin1 ("bytes" : Str) (.list (natsP ((List.range w).map fun i => x / 256 ^ i % 256))) = some (.bytes (leB x w)) := by
    refine (bi_bytes (ab_nats (fun i => x / 256 ^ i % 256) (List.range w) fun i _ => Nat.mod_lt _ (by decide)) (by rw [natsP_len]; simp; (exact (Nat.le_of_not_lt fun z0 => (hw.elim (fun y4 => (linF [_] [.s 1 (.n 16777216) (.v 0), .q 1 (.v 0) (.n 2)] rfl z0 y4)) (fun y4 => (linF [_] [.s 1 (.n 16777216) (.v 0), .q 1 (.v 0) (.n 4)] rfl z0 y4))))))).trans ?_
    rcases hw with rfl | rfl
    · simp [List.range, List.range.loop, leB, le2, u8_mod]
    · simp [List.range, List.range.loop, leB, le4, u8_mod]
  refine' cl_ok M.le (σ := [("n", .val (.int x)), ("width", .val (.int w)), ("out", .unb), ("i", .unb)]) (by kernel_rfl) ?b
  case b =>
    (refine' ss_nextN ?s3 ?e3 ?r3); (case s3 => first | trivial | fail); (case e3 => (try unfold leS); first | ((with_reducible refine' Eq.trans (set_idxC ?jj3) ?jk3); (case jj3 => exact rfl); (case jk3 => dsimp only [List.set_cons_succ, List.set_cons_zero]; try exact rfl)) | ((with_reducible refine' Eq.trans (set_idx2 ?jl3 ?jm3) ?jn3); (case jl3 => exact rfl); (case jm3 => exact rfl); (case jn3 => dsimp only [List.set_cons_succ, List.set_cons_zero]; try exact rfl)) | (simp (config := { decide := true }) only [Loc.set, if_true, if_false]; exact rfl))
    (refine' ss_next (st_for rfl (i_range rfl rfl rfl ?k2 rfl ?k3) ?k4) ?r2); (case k2 => first | trivial | fail); (case k3 => show w ≤ 16777216; (exact (Nat.le_of_not_lt fun z0 => (hw.elim (fun y4 => (linF [_] [.s 1 (.n 16777216) (.v 0), .q 1 (.v 0) (.n 2)] rfl z0 y4)) (fun y4 => (linF [_] [.s 1 (.n 16777216) (.v 0), .q 1 (.v 0) (.n 4)] rfl z0 y4)))))); (case k4 => exact hL)
    (refine' ss_retd ?s4); (case s4 => first | trivial | fail)
local macro_rules | `(tactic| decreasing_tactic) => `(tactic| first | ((with_reducible refine le_run (by assumption) _ _ _ ?_); first | exact Or.inl rfl | exact Or.inr rfl))
theorem lcrc_run (M : C1 C) (d : Bs) (n : Nat) (hd : d.length ≤ 1000) : (ev C (n + 20)).cl ("_law_crc" : Str) [.bytes d] = .ok (.int (crc d : Nat)) := by
  have M0 := M.toCm
  have hr := rev_b (b := d) (by (exact (linL [_] [.l 1 (.v 0) (.n 1000)] 1 (.v 0) (.n 16777216) rfl hd)))
  have f1 : ∀ (l : Bs) (a : Nat × Slot), (l.foldl (fun (a : Nat × Slot) (b : UInt8) => (a.1 * 256 + b.toNat, Slot.val (.int (b.toNat : Nat)))) a).1 = l.foldl (fun v b => v * 256 + b.toNat) a.1 := by
    intro l
    induction l with
    | nil => intro a; rfl
    | cons b l ih => intro a; exact ih _
  have f2 : ∀ (l : List Nat) (a : Nat × Slot), (l.foldl (fun (a : Nat × Slot) (k : Nat) => (cg a.1 k, Slot.val (.int (k : Nat)))) a).1 = l.foldl cg a.1 := by
    intro l
    induction l with
    | nil => intro a; rfl
    | cons b l ih => intro a; exact ih _
  have g1 := f1 d.reverse (0, .unb)
  rw [show ((0 : Nat), Slot.unb).1 = 0 from rfl, num_fold] at g1
  have L1 : forL (forT (fnOf 22).body 1) ((ev C (n + 18)).ss (fnOf 22).scope (forB (fnOf 22).body 1)) (d.reverse.map fun (b : UInt8) => PV.int (b.toNat : Nat)) [("data", .val (.bytes d)), ("value", .val (.int (0 : Nat))), ("b", .unb), ("k", .unb)] = .ok (.next, [("data", .val (.bytes d)), ("value", .val (.int (numL d : Nat))), ("b", (d.reverse.foldl (fun (a : Nat × Slot) (b : UInt8) => (a.1 * 256 + b.toNat, Slot.val (.int (b.toNat : Nat)))) (0, .unb)).2), ("k", .unb)]) := by
    have h := for_fold (t := forT (fnOf 22).body 1) (bd := (ev C (n + 18)).ss (fnOf 22).scope (forB (fnOf 22).body 1)) (fun (a : Nat × Slot) => [("data", .val (.bytes d)), ("value", .val (.int (a.1 : Nat))), ("b", a.2), ("k", .unb)]) (fun a (b : UInt8) => (a.1 * 256 + b.toNat, .val (.int (b.toNat : Nat)))) (fun (b : UInt8) => PV.int (b.toNat : Nat)) d.reverse (0, .unb) fun a b _ => ⟨_, rfl, ?_⟩
    · rw [h, ← g1]
    · (refine' ss_nextN ?s5 ?e5 ?r5); (case s5 => first | trivial | fail); (case e5 => (try unfold leS); first | ((with_reducible refine' Eq.trans (set_idxC ?jj5) ?jk5); (case jj5 => exact rfl); (case jk5 => dsimp only [List.set_cons_succ, List.set_cons_zero]; try exact rfl)) | ((with_reducible refine' Eq.trans (set_idx2 ?jl5 ?jm5) ?jn5); (case jl5 => exact rfl); (case jm5 => exact rfl); (case jn5 => dsimp only [List.set_cons_succ, List.set_cons_zero]; try exact rfl)) | (simp (config := { decide := true }) only [Loc.set, if_true, if_false]; exact rfl))
      exact ss_nil
  generalize (d.reverse.foldl (fun (a : Nat × Slot) (b : UInt8) => (a.1 * 256 + b.toNat, Slot.val (.int (b.toNat : Nat)))) (0, .unb)).2 = qb at L1
  have g2 := f2 (List.range (8 * d.length)) (numL d ^^^ 4294967295, .unb)
  have L2 : forL (forT (fnOf 22).body 3) ((ev C (n + 18)).ss (fnOf 22).scope (forB (fnOf 22).body 3)) ((List.range (8 * d.length)).map fun (j : Nat) => PV.int (j : Int)) [("data", .val (.bytes d)), ("value", .val (.int (numL d ^^^ 4294967295 : Nat))), ("b", qb), ("k", .unb)] = .ok (.next, [("data", .val (.bytes d)), ("value", .val (.int ((List.range (8 * d.length)).foldl cg (numL d ^^^ 4294967295) : Nat))), ("b", qb), ("k", ((List.range (8 * d.length)).foldl (fun (a : Nat × Slot) (k : Nat) => (cg a.1 k, Slot.val (.int (k : Nat)))) (numL d ^^^ 4294967295, .unb)).2)]) := by
    have h := for_fold (t := forT (fnOf 22).body 3) (bd := (ev C (n + 18)).ss (fnOf 22).scope (forB (fnOf 22).body 3)) (fun (a : Nat × Slot) => [("data", .val (.bytes d)), ("value", .val (.int (a.1 : Nat))), ("b", qb), ("k", a.2)]) (fun a (k : Nat) => (cg a.1 k, .val (.int (k : Nat)))) (fun (j : Nat) => PV.int (j : Int)) (List.range (8 * d.length)) (numL d ^^^ 4294967295, .unb) fun a k hk => ⟨_, rfl, ?_⟩
    · rw [h, ← g2]
    · have hk := List.mem_range.mp hk
      have p2 : k ≤ 1000000 := by (exact (linL [_, _] [.l 8 (.v 0) (.n 1000), .s 1 (.v 1) (.m 8 (.v 0))] 1 (.v 1) (.n 1000000) rfl hd hk))
      have hbit : (a.1 / 2 ^ k &&& 1) = a.1 / 2 ^ k % 2 := Nat.and_one_is_mod _
      (refine' ss_next (σ₁ := [("data", .val (.bytes d)), ("value", .val (.int (cg a.1 k : Nat))), ("b", qb), ("k", .val (.int (k : Nat)))]) (st_if ?a1 ?a2 ?a3) ss_nil); (case a1 => first | trivial | fail)
      case a2 =>
        intro hz
        have hz : a.1 / 2 ^ k % 2 = 1 := by rw [← hbit]; exact of_decide_eq_true hz
        (refine' ss_nextN ?s6 ?e6 ?r6); (case s6 => first | trivial | fail); (case e6 => (try unfold leS); first | ((with_reducible refine' Eq.trans (set_idxC ?jj6) ?jk6); (case jj6 => exact rfl); (case jk6 => dsimp only [List.set_cons_succ, List.set_cons_zero]; try exact rfl)) | ((with_reducible refine' Eq.trans (set_idx2 ?jl6 ?jm6) ?jn6); (case jl6 => exact rfl); (case jm6 => exact rfl); (case jn6 => dsimp only [List.set_cons_succ, List.set_cons_zero]; try exact rfl)) | (simp (config := { decide := true }) only [Loc.set, if_true, if_false]; exact rfl))
        refine ss_end ?_
        rw [cg, if_pos hz]
      case a3 =>
        intro hz
        have hz : ¬ a.1 / 2 ^ k % 2 = 1 := by rw [← hbit]; exact of_decide_eq_false hz
        refine ss_end ?_
        rw [cg, if_neg hz]
        exact rfl
  generalize ((List.range (8 * d.length)).foldl (fun (a : Nat × Slot) (k : Nat) => (cg a.1 k, Slot.val (.int (k : Nat)))) (numL d ^^^ 4294967295, .unb)).2 = qk at L2
  have hc := crc_long d
  refine' cl_okE M.lcrc (σ := [("data", .val (.bytes d)), ("value", .unb), ("b", .unb), ("k", .unb)]) (by kernel_rfl) ?b ?w
  case b =>
    (refine' ss_nextN ?s7 ?e7 ?r7); (case s7 => first | trivial | fail); (case e7 => (try unfold leS); first | ((with_reducible refine' Eq.trans (set_idxC ?jj7) ?jk7); (case jj7 => exact rfl); (case jk7 => dsimp only [List.set_cons_succ, List.set_cons_zero]; try exact rfl)) | ((with_reducible refine' Eq.trans (set_idx2 ?jl7 ?jm7) ?jn7); (case jl7 => exact rfl); (case jm7 => exact rfl); (case jn7 => dsimp only [List.set_cons_succ, List.set_cons_zero]; try exact rfl)) | (simp (config := { decide := true }) only [Loc.set, if_true, if_false]; exact rfl))
    (refine' ss_next (st_for rfl (i_plain rfl (x_sub ?k1 (s_rev hr)) ?k3) ?k4) ?r2); (case k1 => first | trivial | fail); (case k3 => exact rfl); (case k4 => exact L1)
    (refine' ss_nextN ?s8 ?e8 ?r8); (case s8 => first | trivial | fail); (case e8 => (try unfold leS); first | ((with_reducible refine' Eq.trans (set_idxC ?jj8) ?jk8); (case jj8 => exact rfl); (case jk8 => dsimp only [List.set_cons_succ, List.set_cons_zero]; try exact rfl)) | ((with_reducible refine' Eq.trans (set_idx2 ?jl8 ?jm8) ?jn8); (case jl8 => exact rfl); (case jm8 => exact rfl); (case jn8 => dsimp only [List.set_cons_succ, List.set_cons_zero]; try exact rfl)) | (simp (config := { decide := true }) only [Loc.set, if_true, if_false]; exact rfl))
    (refine' ss_next (st_for rfl (i_range rfl rfl rfl ?m2 ?m5 ?m3) ?m4) ?v2); (case m2 => first | trivial | fail); (case m5 => exact rfl); (case m3 => show 8 * d.length ≤ 16777216; (exact (linL [_] [.l 8 (.v 0) (.n 1000)] 1 (.m 8 (.v 0)) (.n 16777216) rfl hd))); (case m4 => exact L2)
    (refine' ss_retd ?s9); (case s9 => first | trivial | fail)
  case w => rw [← hc]
end
set_option maxHeartbeats 1000000
local macro_rules | `(tactic| decreasing_tactic) => `(tactic| first | ((with_reducible refine le_run (by assumption) _ _ _ ?_); first | exact Or.inl rfl | exact Or.inr rfl) | ((with_reducible refine lcrc_run (by assumption) _ _ ?_); omega))
section
variable {C : Ctx}
theorem lhead_run (M : C1 C) (nm d : Bs) (n : Nat) (h1 : nm.length ≤ 1000) (h2 : d.length ≤ 1000) : (ev C (n + 30)).cl ("_law_head" : Str) [.bytes nm, .bytes d] = .ok (.bytes (midB nm d)) := by
  have M0 := M.toCm
  have hle := M.le
  have hcr := M.lcrc
  refine' cl_okE M.lhead (σ := [("name", .val (.bytes nm)), ("data", .val (.bytes d)), ("sizes", .unb)]) (by kernel_rfl) ?b ?w
  case b =>
    (refine' ss_nextN ?s2 ?e2 ?r2); (case s2 => first | trivial | fail); (case e2 => first | ((with_reducible refine' Eq.trans (set_idxC ?jj2) ?jk2); (case jj2 => exact rfl); (case jk2 => dsimp only [List.set_cons_succ, List.set_cons_zero]; try exact rfl)) | ((with_reducible refine' Eq.trans (set_idx2 ?jl2 ?jm2) ?jn2); (case jl2 => exact rfl); (case jm2 => exact rfl); (case jn2 => dsimp only [List.set_cons_succ, List.set_cons_zero]; try exact rfl)) | (simp (config := { decide := true }) only [Loc.set, if_true, if_false]; exact rfl))
    (refine' ss_retd ?s3); (case s3 => first | trivial | fail)
  case w => rfl
local macro_rules | `(tactic| decreasing_tactic) => `(tactic| first | ((with_reducible refine lhead_run (by assumption) _ _ _ ?_ ?_) <;> omega))
noncomputable def Sm (e : Ent) : Prop := e.1.length ≤ 1000 ∧ e.2.length ≤ 19
theorem local_run (M : C1 C) (es : List Ent) (n : Nat) (hs : ∀ e ∈ es, Sm e) (hl : (front es).length ≤ 1000000) : (ev C (n + 40)).cl ("_law_local" : Str) [.list (es.map entP)] = .ok (.bytes (front es)) := by
  have M0 := M.toCm
  have hhd := M.lhead
  have f1 : ∀ (l : List Ent) (a : Bs × Slot × Slot), (l.foldl (fun (a : Bs × Slot × Slot) (e : Ent) => (a.1 ++ locB e, Slot.val (.bytes e.1), Slot.val (.bytes e.2))) a).1 = a.1 ++ front l := by
    intro l
    induction l with
    | nil => intro a; simp [front]
    | cons b l ih => intro a; rw [List.foldl_cons, ih, front_cons']; simp
  have L := for_foldI (t := forT (fnOf 24).body 1) (bd := (ev C (n + 38)).ss (fnOf 24).scope (forB (fnOf 24).body 1)) (fun (a : Bs × Slot × Slot) => [("entries", .val (.list (es.map entP))), ("out", .val (.bytes a.1)), ("name", a.2.1), ("data", a.2.2)]) (fun a (e : Ent) => (a.1 ++ locB e, .val (.bytes e.1), .val (.bytes e.2))) entP (fun bs a => (∀ e ∈ bs, Sm e) ∧ a.1.length + (front bs).length ≤ 1000000) (fun b bs a h => ⟨fun e he => h.1 e (.tail _ he), by have := h.2; rw [front_cons', List.length_append] at this; rw [List.length_append]; (exact (linL [_, _, _] [.l 1 (.a (.v 0) (.a (.v 1) (.v 2))) (.n 1000000)] 1 (.a (.a (.v 0) (.v 1)) (.v 2)) (.n 1000000) rfl this))⟩) es ([], .unb, .unb) ⟨hs, by simpa using hl⟩ (fun e bs a h => ⟨_, rfl, by
    have hs := h.1 e (.head _)
    have h1 : e.1.length ≤ 1000 := hs.1
    have h2 : e.2.length ≤ 1000 := by have := hs.2; (exact (linL [_] [.l 1 (.v 0) (.n 19)] 1 (.v 0) (.n 1000) rfl this))
    have hl := h.2
    rw [front_cons', List.length_append, locB_length, room] at hl
    (refine' ss_nextN ?s4 ?e4 ?r4); (case s4 => first | trivial | fail); (case e4 => first | ((with_reducible refine' Eq.trans (set_idxC ?jj4) ?jk4); (case jj4 => exact rfl); (case jk4 => dsimp only [List.set_cons_succ, List.set_cons_zero]; try exact rfl)) | ((with_reducible refine' Eq.trans (set_idx2 ?jl4 ?jm4) ?jn4); (case jl4 => exact rfl); (case jm4 => exact rfl); (case jn4 => dsimp only [List.set_cons_succ, List.set_cons_zero]; try exact rfl)) | (simp (config := { decide := true }) only [Loc.set, if_true, if_false]; exact rfl))
    refine ss_end ?_
    have e1 : a.1 ++ [80, 75, 3, 4, 20, 0] ++ midB e.1 e.2 ++ e.1 ++ e.2 = a.1 ++ locB e := by simp [locB, le2]
    rw [← e1]⟩)
  have hF := f1 es ([], .unb, .unb)
  generalize es.foldl (fun (a : Bs × Slot × Slot) (e : Ent) => (a.1 ++ locB e, Slot.val (.bytes e.1), Slot.val (.bytes e.2))) ([], .unb, .unb) = a at L hF
  obtain ⟨a1, a2, a3⟩ := a
  simp only [List.nil_append] at hF
  subst hF
  refine' cl_ok M.local_ (σ := [("entries", .val (.list (es.map entP))), ("out", .unb), ("name", .unb), ("data", .unb)]) (by kernel_rfl) ?b
  case b =>
    (refine' ss_nextN ?s5 ?e5 ?r5); (case s5 => first | trivial | fail); (case e5 => first | ((with_reducible refine' Eq.trans (set_idxC ?jj5) ?jk5); (case jj5 => exact rfl); (case jk5 => dsimp only [List.set_cons_succ, List.set_cons_zero]; try exact rfl)) | ((with_reducible refine' Eq.trans (set_idx2 ?jl5 ?jm5) ?jn5); (case jl5 => exact rfl); (case jm5 => exact rfl); (case jn5 => dsimp only [List.set_cons_succ, List.set_cons_zero]; try exact rfl)) | (simp (config := { decide := true }) only [Loc.set, if_true, if_false]; exact rfl))
    (refine' ss_next (st_for rfl (i_plain rfl ?k2 ?k3) ?k4) ?r2); (case k2 => first | trivial | fail); (case k3 => exact rfl); (case k4 => exact L)
    (refine' ss_retd ?s6); (case s6 => first | trivial | fail)
theorem central_run (M : C1 C) (es : List Ent) (n : Nat) (hs : ∀ e ∈ es, Sm e) (hl : (middle 0 es).length ≤ 1000000) : (ev C (n + 40)).cl ("_law_central" : Str) [.list (es.map entP)] = .ok (.bytes (middle 0 es)) := by
  have M0 := M.toCm
  have hhd := M.lhead
  have hle := M.le
  have f1 : ∀ (l : List Ent) (a : Bs × Nat × Slot × Slot), (l.foldl (fun (a : Bs × Nat × Slot × Slot) (e : Ent) => (a.1 ++ (cenH a.2.1 e ++ e.1), a.2.1 + room e, Slot.val (.bytes e.1), Slot.val (.bytes e.2))) a).1 = a.1 ++ middle a.2.1 l := by
    intro l
    induction l with
    | nil => intro a; simp [middle]
    | cons b l ih => intro a; rw [List.foldl_cons, ih, middle]; simp
  have hm : ∀ (l : List Ent) (x y : Nat), (middle x l).length = (middle y l).length := by
    intro l
    induction l with
    | nil => intro x y; rfl
    | cons b l ih => intro x y; simp only [middle, List.length_append, cenH_length, ih (x + room b) (y + room b)]
  have L := for_foldI (t := forT (fnOf 25).body 2) (bd := (ev C (n + 38)).ss (fnOf 25).scope (forB (fnOf 25).body 2)) (fun (a : Bs × Nat × Slot × Slot) => [("entries", .val (.list (es.map entP))), ("out", .val (.bytes a.1)), ("where", .val (.int (a.2.1 : Nat))), ("name", a.2.2.1), ("data", a.2.2.2)]) (fun a (e : Ent) => (a.1 ++ (cenH a.2.1 e ++ e.1), a.2.1 + room e, .val (.bytes e.1), .val (.bytes e.2))) entP (fun bs a => (∀ e ∈ bs, Sm e) ∧ a.1.length + (middle 0 bs).length ≤ 1000000) (fun b bs a h => ⟨fun e he => h.1 e (.tail _ he), by
      have := h.2
      rw [middle, List.length_append, List.length_append, cenH_length, hm bs _ 0] at this
      simp only [List.length_append, cenH_length]; (exact (linL [_, _, _] [.l 1 (.a (.v 0) (.a (.a (.n 46) (.v 1)) (.v 2))) (.n 1000000)] 1 (.a (.a (.v 0) (.a (.n 46) (.v 1))) (.v 2)) (.n 1000000) rfl this))⟩) es ([], 0, .unb, .unb) ⟨hs, by simpa using hl⟩ (fun e bs a h => ⟨_, rfl, by
    have hs := h.1 e (.head _)
    have h1 : e.1.length ≤ 1000 := hs.1
    have h2 : e.2.length ≤ 1000 := by have := hs.2; (exact (linL [_] [.l 1 (.v 0) (.n 19)] 1 (.v 0) (.n 1000) rfl this))
    have hl := h.2
    rw [middle, List.length_append, List.length_append, cenH_length] at hl
    (refine' ss_nextN ?s7 ?e7 ?r7); (case s7 => first | trivial | fail); (case e7 => first | ((with_reducible refine' Eq.trans (set_idxC ?jj7) ?jk7); (case jj7 => exact rfl); (case jk7 => dsimp only [List.set_cons_succ, List.set_cons_zero]; try exact rfl)) | ((with_reducible refine' Eq.trans (set_idx2 ?jl7 ?jm7) ?jn7); (case jl7 => exact rfl); (case jm7 => exact rfl); (case jn7 => dsimp only [List.set_cons_succ, List.set_cons_zero]; try exact rfl)) | (simp (config := { decide := true }) only [Loc.set, if_true, if_false]; exact rfl))
    (refine' ss_nextN ?s8 ?e8 ?r8); (case s8 => first | trivial | fail); (case e8 => first | ((with_reducible refine' Eq.trans (set_idxC ?jj8) ?jk8); (case jj8 => exact rfl); (case jk8 => dsimp only [List.set_cons_succ, List.set_cons_zero]; try exact rfl)) | ((with_reducible refine' Eq.trans (set_idx2 ?jl8 ?jm8) ?jn8); (case jl8 => exact rfl); (case jm8 => exact rfl); (case jn8 => dsimp only [List.set_cons_succ, List.set_cons_zero]; try exact rfl)) | (simp (config := { decide := true }) only [Loc.set, if_true, if_false]; exact rfl))
    refine ss_end ?_
    have e1 : a.1 ++ [80, 75, 1, 2, 20, 0, 20, 0] ++ midB e.1 e.2 ++ [0, 0, 0, 0, 0, 0, 0, 0, 0, 0] ++ leB a.2.1 4 ++ e.1 = a.1 ++ (cenH a.2.1 e ++ e.1) := by rw [leB_4]; simp [cenH, le2, le4]
    have e2 : a.2.1 + 30 + e.1.length + e.2.length = a.2.1 + room e := by simp only [room]; (exact (linE [_, _, _] [] 1 (.a (.a (.a (.v 0) (.n 30)) (.v 1)) (.v 2)) (.a (.v 0) (.a (.a (.n 30) (.v 1)) (.v 2))) rfl rfl))
    rw [← e1, ← e2]⟩)
  have hF := f1 es ([], 0, .unb, .unb)
  generalize es.foldl (fun (a : Bs × Nat × Slot × Slot) (e : Ent) => (a.1 ++ (cenH a.2.1 e ++ e.1), a.2.1 + room e, Slot.val (.bytes e.1), Slot.val (.bytes e.2))) ([], 0, .unb, .unb) = a at L hF
  obtain ⟨a1, a2, a3, a4⟩ := a
  simp only [List.nil_append] at hF
  subst hF
  refine' cl_ok M.central (σ := [("entries", .val (.list (es.map entP))), ("out", .unb), ("where", .unb), ("name", .unb), ("data", .unb)]) (by kernel_rfl) ?b
  case b =>
    (refine' ss_nextN ?s9 ?e9 ?r9); (case s9 => first | trivial | fail); (case e9 => first | ((with_reducible refine' Eq.trans (set_idxC ?jj9) ?jk9); (case jj9 => exact rfl); (case jk9 => dsimp only [List.set_cons_succ, List.set_cons_zero]; try exact rfl)) | ((with_reducible refine' Eq.trans (set_idx2 ?jl9 ?jm9) ?jn9); (case jl9 => exact rfl); (case jm9 => exact rfl); (case jn9 => dsimp only [List.set_cons_succ, List.set_cons_zero]; try exact rfl)) | (simp (config := { decide := true }) only [Loc.set, if_true, if_false]; exact rfl))
    (refine' ss_nextN ?s10 ?e10 ?r10); (case s10 => first | trivial | fail); (case e10 => first | ((with_reducible refine' Eq.trans (set_idxC ?jj10) ?jk10); (case jj10 => exact rfl); (case jk10 => dsimp only [List.set_cons_succ, List.set_cons_zero]; try exact rfl)) | ((with_reducible refine' Eq.trans (set_idx2 ?jl10 ?jm10) ?jn10); (case jl10 => exact rfl); (case jm10 => exact rfl); (case jn10 => dsimp only [List.set_cons_succ, List.set_cons_zero]; try exact rfl)) | (simp (config := { decide := true }) only [Loc.set, if_true, if_false]; exact rfl))
    (refine' ss_next (st_for rfl (i_plain rfl ?k2 ?k3) ?k4) ?r2); (case k2 => first | trivial | fail); (case k3 => exact rfl); (case k4 => exact L)
    (refine' ss_retd ?s11); (case s11 => first | trivial | fail)
theorem end_run (M : C1 C) (a b c n : Nat) : (ev C (n + 30)).cl ("_law_end" : Str) [.int (a : Int), .int (b : Int), .int (c : Int)] = .ok (.bytes (endB a b c)) := by
  have M0 := M.toCm
  have hle := M.le
  refine' cl_okE M.end_ (σ := [("count", .val (.int a)), ("size", .val (.int b)), ("where", .val (.int c))]) (by kernel_rfl) ?b ?w
  case b =>
    (refine' ss_retd ?s12); (case s12 => first | trivial | fail)
  case w => rfl
noncomputable def bF (S : List Bs × Slot → Loc) : List Ent → List Bs × Slot → Rs (Outc × Loc)
  | [], a => .ok (.next, S a)
  | e :: es, a => if e.1 = [] ∨ e.1 ∈ a.1 then .ok (.ret (.bool true), S (a.1, .val (entP e))) else bF S es (a.1 ++ [e.1], .val (entP e))
theorem bF_good (S : List Bs × Slot → Loc) : ∀ (es : List Ent) (a : List Bs × Slot), goodFrom a.1 es = true → ∃ a', bF S es a = .ok (.next, S a')
  | [], a, _ => ⟨a, rfl⟩
  | e :: es, a, h => by
    simp only [goodFrom, Bool.and_eq_true, Bool.not_eq_true', List.isEmpty_eq_false_iff] at h
    have h1 : ¬ (e.1 = [] ∨ e.1 ∈ a.1) := by
      rintro (q | q)
      · exact h.1.1 q
      · have := h.1.2; simp at this; exact this q
    unfold bF
    rw [if_neg h1]
    exact bF_good S es _ h.2
theorem bF_bad (S : List Bs × Slot → Loc) : ∀ (es : List Ent) (a : List Bs × Slot), goodFrom a.1 es = false → ∃ σ, bF S es a = .ok (.ret (.bool true), σ)
  | [], a, h => by cases h
  | e :: es, a, h => by
    unfold bF
    by_cases h1 : e.1 = [] ∨ e.1 ∈ a.1
    · rw [if_pos h1]; exact ⟨_, rfl⟩
    · rw [if_neg h1]
      refine bF_bad S es _ ?_
      have h3 : e.1.isEmpty = false := by simpa using fun q : e.1 = [] => h1 (.inl q)
      have h4 : a.1.contains e.1 = false := by simpa using fun q : e.1 ∈ a.1 => h1 (.inr q)
      simp only [goodFrom, h3, h4, Bool.not_false, Bool.true_and] at h
      exact h
noncomputable def bS (es : List Ent) (a : List Bs × Slot) : Loc := [("entries", .val (.list (es.map entP))), ("found", .own (bytesP' a.1)), ("entry", a.2)]
theorem bLoop (M : C1 C) (es : List Ent) (hn : es.length ≤ 1000) {n : Nat} : forL (forT (fnOf 27).body 1) ((ev C (n + 10)).ss (fnOf 27).scope (forB (fnOf 27).body 1)) (es.map entP) (bS es ([], .unb)) = bF (bS es) es ([], .unb) := by
  have M0 := M.toCm
  refine for_rec (bS es) entP (fun bs a => a.1.length + bs.length ≤ 1000) (bF (bS es)) (fun a _ => rfl) ?_ es ([], .unb) (by simpa using hn)
  rintro e bs ⟨seen, q1⟩ hs
  have i0 := ent_0 e
  have hm := in_names e.1 seen
  have hs0 : (bytesP' seen).length < 16777216 := by rw [bytesP_len]; simp at hs; (exact (linS [_, _] [.l 1 (.a (.v 0) (.a (.v 1) (.n 1))) (.n 1000)] 1 (.v 0) (.n 16777216) rfl hs))
  refine ⟨_, rfl, ?_⟩
  by_cases h1 : e.1 = [] ∨ e.1 ∈ seen
  · refine .inr (.inr ⟨_, _, ?_, by unfold bF; rw [if_pos h1]⟩)
    (refine' ss_retd (st_ifT ?a1 ?b1 ?c1)); (case a1 => first | trivial | fail); (case b1 => simpa using h1)
    case c1 =>
      (refine' ss_retd ?s13); (case s13 => first | trivial | fail)
  · refine .inl ⟨(seen ++ [e.1], .val (entP e)), ?_, by simp at hs ⊢; (exact (linL [_, _] [.l 1 (.a (.v 0) (.a (.v 1) (.n 1))) (.n 1000)] 1 (.a (.a (.v 0) (.n 1)) (.v 1)) (.n 1000) rfl hs)), by conv => lhs; unfold bF; rw [if_neg h1]⟩
    (refine' ss_next (st_ifF ?a14 ?b14 ?c14) ?r14); (case a14 => first | trivial | fail); (case b14 => simpa using h1); (case c14 => exact ss_nil)
    (refine' ss_nextN ?s15 ?e15 ?r15); (case s15 => first | trivial | fail); (case e15 => (try unfold bS); first | ((with_reducible refine' Eq.trans (set_idxC ?jj15) ?jk15); (case jj15 => exact rfl); (case jk15 => dsimp only [List.set_cons_succ, List.set_cons_zero]; try exact rfl)) | ((with_reducible refine' Eq.trans (set_idx2 ?jl15 ?jm15) ?jn15); (case jl15 => exact rfl); (case jm15 => exact rfl); (case jn15 => dsimp only [List.set_cons_succ, List.set_cons_zero]; try exact rfl)) | (simp (config := { decide := true }) only [Loc.set, if_true, if_false]; exact rfl))
    refine ss_end ?_
    simp only [bS, bytesP', List.map_append, List.map_cons, List.map_nil]
theorem bad_run (M : C1 C) (es : List Ent) (n : Nat) (hn : es.length ≤ 1000) : (ev C (n + 20)).cl ("_law_bad" : Str) [.list (es.map entP)] = .ok (.bool (!good es)) := by
  have M0 := M.toCm
  have hL := bLoop (n := n + 8) M es hn
  cases hg : good es with
  | true =>
    obtain ⟨a', h⟩ := bF_good (bS es) es ([], .unb) hg
    rw [h] at hL
    refine' cl_ok M.bad (σ := [("entries", .val (.list (es.map entP))), ("found", .unb), ("entry", .unb)]) (by kernel_rfl) ?b
    case b =>
      (refine' ss_nextN ?s16 ?e16 ?r16); (case s16 => first | trivial | fail); (case e16 => (try unfold bS); first | ((with_reducible refine' Eq.trans (set_idxC ?jj16) ?jk16); (case jj16 => exact rfl); (case jk16 => dsimp only [List.set_cons_succ, List.set_cons_zero]; try exact rfl)) | ((with_reducible refine' Eq.trans (set_idx2 ?jl16 ?jm16) ?jn16); (case jl16 => exact rfl); (case jm16 => exact rfl); (case jn16 => dsimp only [List.set_cons_succ, List.set_cons_zero]; try exact rfl)) | (simp (config := { decide := true }) only [Loc.set, if_true, if_false]; exact rfl))
      (refine' ss_next (st_for rfl (i_plain rfl ?k2 ?k3) ?k4) ?r2); (case k2 => first | trivial | fail); (case k3 => exact rfl); (case k4 => exact hL)
      (refine' ss_retd ?s17); (case s17 => first | trivial | fail)
  | false =>
    obtain ⟨σ, h⟩ := bF_bad (bS es) es ([], .unb) hg
    rw [h] at hL
    refine' cl_ok M.bad (σ := [("entries", .val (.list (es.map entP))), ("found", .unb), ("entry", .unb)]) (by kernel_rfl) ?bb
    case bb =>
      (refine' ss_nextN ?s18 ?e18 ?r18); (case s18 => first | trivial | fail); (case e18 => (try unfold bS); first | ((with_reducible refine' Eq.trans (set_idxC ?jj18) ?jk18); (case jj18 => exact rfl); (case jk18 => dsimp only [List.set_cons_succ, List.set_cons_zero]; try exact rfl)) | ((with_reducible refine' Eq.trans (set_idx2 ?jl18 ?jm18) ?jn18); (case jl18 => exact rfl); (case jm18 => exact rfl); (case jn18 => dsimp only [List.set_cons_succ, List.set_cons_zero]; try exact rfl)) | (simp (config := { decide := true }) only [Loc.set, if_true, if_false]; exact rfl))
      (refine' ss_retd (st_for rfl (i_plain rfl ?kk2 ?kk3) ?kk4)); (case kk2 => first | trivial | fail); (case kk3 => exact rfl); (case kk4 => exact hL)
theorem lwrite_bad (M : C1 C) (es : List Ent) (n : Nat) (hg : good es = false) (hs : ∀ e ∈ es, Sm e) (hn : es.length ≤ 1000) : (ev C (n + 70)).cl ("_law_write" : Str) [.list (es.map entP)] = .ok (.tuple [.bool true, .none]) := by
  have hw := write_bad M.toCm es (n + 7) hg (fun e he => by have := (hs e he).1; (exact (linL [_] [.l 1 (.v 0) (.n 1000)] 1 (.v 0) (.n 16777216) rfl this))) (by (exact (linS [_] [.l 1 (.v 0) (.n 1000)] 1 (.v 0) (.n 16777216) rfl hn)))
  refine' cl_ok M.lwrite (σ := [("handed", .val (.list (es.map entP))), ("refused", .unb), ("got", .unb)]) (by kernel_rfl) ?b
  case b =>
    (refine' ss_nextN ?s19 ?e19 ?r19); (case s19 => first | trivial | fail); (case e19 => (try unfold bS); first | ((with_reducible refine' Eq.trans (set_idxC ?jj19) ?jk19); (case jj19 => exact rfl); (case jk19 => dsimp only [List.set_cons_succ, List.set_cons_zero]; try exact rfl)) | ((with_reducible refine' Eq.trans (set_idx2 ?jl19 ?jm19) ?jn19); (case jl19 => exact rfl); (case jm19 => exact rfl); (case jn19 => dsimp only [List.set_cons_succ, List.set_cons_zero]; try exact rfl)) | (simp (config := { decide := true }) only [Loc.set, if_true, if_false]; exact rfl))
    (refine' ss_nextN ?s20 ?e20 ?r20); (case s20 => first | trivial | fail); (case e20 => (try unfold bS); first | ((with_reducible refine' Eq.trans (set_idxC ?jj20) ?jk20); (case jj20 => exact rfl); (case jk20 => dsimp only [List.set_cons_succ, List.set_cons_zero]; try exact rfl)) | ((with_reducible refine' Eq.trans (set_idx2 ?jl20 ?jm20) ?jn20); (case jl20 => exact rfl); (case jm20 => exact rfl); (case jn20 => dsimp only [List.set_cons_succ, List.set_cons_zero]; try exact rfl)) | (simp (config := { decide := true }) only [Loc.set, if_true, if_false]; exact rfl))
    (refine' ss_next (st_tryX rfl (x_callX M.write ?y1 ?y2 ?y3 ?y4 hw) ?y5 ?y6) ?y7); (case y4 => first | trivial | fail); (case y5 => exact rfl); (case y6 => exact rfl); (case y1 => exact rfl); (case y2 => exact rfl); (case y3 => exact Nat.le_of_ble_eq_true rfl)
    (refine' ss_retd ?s21); (case s21 => first | trivial | fail)
theorem lwrite_good (M : C1 C) (es : List Ent) (n : Nat) (hg : good es = true) (hl : (arc es).length ≤ 16000000) : (ev C (n + 70)).cl ("_law_write" : Str) [.list (es.map entP)] = .ok (.tuple [.bool false, .bytes (arc es)]) := by
  have hw := write_good M.toCm es (n + 7) hg hl
  refine' cl_ok M.lwrite (σ := [("handed", .val (.list (es.map entP))), ("refused", .unb), ("got", .unb)]) (by kernel_rfl) ?b
  case b =>
    (refine' ss_nextN ?s22 ?e22 ?r22); (case s22 => first | trivial | fail); (case e22 => (try unfold bS); first | ((with_reducible refine' Eq.trans (set_idxC ?jj22) ?jk22); (case jj22 => exact rfl); (case jk22 => dsimp only [List.set_cons_succ, List.set_cons_zero]; try exact rfl)) | ((with_reducible refine' Eq.trans (set_idx2 ?jl22 ?jm22) ?jn22); (case jl22 => exact rfl); (case jm22 => exact rfl); (case jn22 => dsimp only [List.set_cons_succ, List.set_cons_zero]; try exact rfl)) | (simp (config := { decide := true }) only [Loc.set, if_true, if_false]; exact rfl))
    (refine' ss_nextN ?s23 ?e23 ?r23); (case s23 => first | trivial | fail); (case e23 => (try unfold bS); first | ((with_reducible refine' Eq.trans (set_idxC ?jj23) ?jk23); (case jj23 => exact rfl); (case jk23 => dsimp only [List.set_cons_succ, List.set_cons_zero]; try exact rfl)) | ((with_reducible refine' Eq.trans (set_idx2 ?jl23 ?jm23) ?jn23); (case jl23 => exact rfl); (case jm23 => exact rfl); (case jn23 => dsimp only [List.set_cons_succ, List.set_cons_zero]; try exact rfl)) | (simp (config := { decide := true }) only [Loc.set, if_true, if_false]; exact rfl))
    (refine' ss_next (st_try rfl (x_call M.write ?y1 ?y2 ?y3 ?y4 hw) ?y5) ?y7); (case y4 => first | trivial | fail); (case y5 => exact rfl); (case y1 => exact rfl); (case y2 => exact rfl); (case y3 => exact Nat.le_of_ble_eq_true rfl)
    (refine' ss_retd ?s24); (case s24 => first | trivial | fail)
theorem lread_none (M : C1 C) (d : Bs) (n : Nat) (hl : d.length ≤ 16000000) (hr : readP d = none) : (ev C (n + 80)).cl ("_law_read" : Str) [.bytes d] = .ok (.tuple [.bool true, .none]) := by
  have hw : (ev C (n + 77)).cl ("read_archive" : Str) [.bytes d] = .exc := by rw [read_run M.toCm d (n + 13) hl, hr]; rfl
  refine' cl_ok M.lread (σ := [("data", .val (.bytes d)), ("refused", .unb), ("got", .unb)]) (by kernel_rfl) ?b
  case b =>
    (refine' ss_nextN ?s25 ?e25 ?r25); (case s25 => first | trivial | fail); (case e25 => (try unfold bS); first | ((with_reducible refine' Eq.trans (set_idxC ?jj25) ?jk25); (case jj25 => exact rfl); (case jk25 => dsimp only [List.set_cons_succ, List.set_cons_zero]; try exact rfl)) | ((with_reducible refine' Eq.trans (set_idx2 ?jl25 ?jm25) ?jn25); (case jl25 => exact rfl); (case jm25 => exact rfl); (case jn25 => dsimp only [List.set_cons_succ, List.set_cons_zero]; try exact rfl)) | (simp (config := { decide := true }) only [Loc.set, if_true, if_false]; exact rfl))
    (refine' ss_nextN ?s26 ?e26 ?r26); (case s26 => first | trivial | fail); (case e26 => (try unfold bS); first | ((with_reducible refine' Eq.trans (set_idxC ?jj26) ?jk26); (case jj26 => exact rfl); (case jk26 => dsimp only [List.set_cons_succ, List.set_cons_zero]; try exact rfl)) | ((with_reducible refine' Eq.trans (set_idx2 ?jl26 ?jm26) ?jn26); (case jl26 => exact rfl); (case jm26 => exact rfl); (case jn26 => dsimp only [List.set_cons_succ, List.set_cons_zero]; try exact rfl)) | (simp (config := { decide := true }) only [Loc.set, if_true, if_false]; exact rfl))
    (refine' ss_next (st_tryX rfl (x_callX M.read ?y1 ?y2 ?y3 ?y4 hw) ?y5 ?y6) ?y7); (case y4 => first | trivial | fail); (case y5 => exact rfl); (case y6 => exact rfl); (case y1 => exact rfl); (case y2 => exact rfl); (case y3 => exact Nat.le_of_ble_eq_true rfl)
    (refine' ss_retd ?s27); (case s27 => first | trivial | fail)
theorem lread_some (M : C1 C) (d : Bs) (es : List Ent) (n : Nat) (hl : d.length ≤ 16000000) (hr : readP d = some es) : (ev C (n + 80)).cl ("_law_read" : Str) [.bytes d] = .ok (.tuple [.bool false, .list (es.map entP)]) := by
  have hw : (ev C (n + 77)).cl ("read_archive" : Str) [.bytes d] = .ok (.list (es.map entP)) := by rw [read_run M.toCm d (n + 13) hl, hr]; rfl
  refine' cl_ok M.lread (σ := [("data", .val (.bytes d)), ("refused", .unb), ("got", .unb)]) (by kernel_rfl) ?b
  case b =>
    (refine' ss_nextN ?s28 ?e28 ?r28); (case s28 => first | trivial | fail); (case e28 => (try unfold bS); first | ((with_reducible refine' Eq.trans (set_idxC ?jj28) ?jk28); (case jj28 => exact rfl); (case jk28 => dsimp only [List.set_cons_succ, List.set_cons_zero]; try exact rfl)) | ((with_reducible refine' Eq.trans (set_idx2 ?jl28 ?jm28) ?jn28); (case jl28 => exact rfl); (case jm28 => exact rfl); (case jn28 => dsimp only [List.set_cons_succ, List.set_cons_zero]; try exact rfl)) | (simp (config := { decide := true }) only [Loc.set, if_true, if_false]; exact rfl))
    (refine' ss_nextN ?s29 ?e29 ?r29); (case s29 => first | trivial | fail); (case e29 => (try unfold bS); first | ((with_reducible refine' Eq.trans (set_idxC ?jj29) ?jk29); (case jj29 => exact rfl); (case jk29 => dsimp only [List.set_cons_succ, List.set_cons_zero]; try exact rfl)) | ((with_reducible refine' Eq.trans (set_idx2 ?jl29 ?jm29) ?jn29); (case jl29 => exact rfl); (case jm29 => exact rfl); (case jn29 => dsimp only [List.set_cons_succ, List.set_cons_zero]; try exact rfl)) | (simp (config := { decide := true }) only [Loc.set, if_true, if_false]; exact rfl))
    (refine' ss_next (st_try rfl (x_call M.read ?y1 ?y2 ?y3 ?y4 hw) ?y5) ?y7); (case y4 => first | trivial | fail); (case y5 => exact rfl); (case y1 => exact rfl); (case y2 => exact rfl); (case y3 => exact Nat.le_of_ble_eq_true rfl)
    (refine' ss_retd ?s30); (case s30 => first | trivial | fail)
theorem llist_none (M : C1 C) (d : Bs) (n : Nat) (hl : d.length ≤ 16000000) (hr : tellN (dirP d) = none) : (ev C (n + 80)).cl ("_law_list" : Str) [.bytes d] = .ok (.tuple [.bool true, .none]) := by
  have hw : (ev C (n + 77)).cl ("names" : Str) [.bytes d] = .exc := by
    rw [names_run M.toCm d (n + 44) (by (exact (linL [_] [.l 1 (.v 0) (.n 16000000)] 1 (.v 0) (.n 16777216) rfl hl)))]
    cases hd : dirP d with
    | none => rfl
    | some l => rw [hd] at hr; cases hr
  refine' cl_ok M.llist (σ := [("data", .val (.bytes d)), ("refused", .unb), ("got", .unb)]) (by kernel_rfl) ?b
  case b =>
    (refine' ss_nextN ?s31 ?e31 ?r31); (case s31 => first | trivial | fail); (case e31 => (try unfold bS); first | ((with_reducible refine' Eq.trans (set_idxC ?jj31) ?jk31); (case jj31 => exact rfl); (case jk31 => dsimp only [List.set_cons_succ, List.set_cons_zero]; try exact rfl)) | ((with_reducible refine' Eq.trans (set_idx2 ?jl31 ?jm31) ?jn31); (case jl31 => exact rfl); (case jm31 => exact rfl); (case jn31 => dsimp only [List.set_cons_succ, List.set_cons_zero]; try exact rfl)) | (simp (config := { decide := true }) only [Loc.set, if_true, if_false]; exact rfl))
    (refine' ss_nextN ?s32 ?e32 ?r32); (case s32 => first | trivial | fail); (case e32 => (try unfold bS); first | ((with_reducible refine' Eq.trans (set_idxC ?jj32) ?jk32); (case jj32 => exact rfl); (case jk32 => dsimp only [List.set_cons_succ, List.set_cons_zero]; try exact rfl)) | ((with_reducible refine' Eq.trans (set_idx2 ?jl32 ?jm32) ?jn32); (case jl32 => exact rfl); (case jm32 => exact rfl); (case jn32 => dsimp only [List.set_cons_succ, List.set_cons_zero]; try exact rfl)) | (simp (config := { decide := true }) only [Loc.set, if_true, if_false]; exact rfl))
    (refine' ss_next (st_tryX rfl (x_callX M.names ?y1 ?y2 ?y3 ?y4 hw) ?y5 ?y6) ?y7); (case y4 => first | trivial | fail); (case y5 => exact rfl); (case y6 => exact rfl); (case y1 => exact rfl); (case y2 => exact rfl); (case y3 => exact Nat.le_of_ble_eq_true rfl)
    (refine' ss_retd ?s33); (case s33 => first | trivial | fail)
theorem llist_some (M : C1 C) (d : Bs) (l : List Bs) (n : Nat) (hl : d.length ≤ 16000000) (hr : tellN (dirP d) = some l) : (ev C (n + 80)).cl ("_law_list" : Str) [.bytes d] = .ok (.tuple [.bool false, .list (bytesP' l)]) := by
  have hw : (ev C (n + 77)).cl ("names" : Str) [.bytes d] = .ok (.list (bytesP' l)) := by
    rw [names_run M.toCm d (n + 44) (by (exact (linL [_] [.l 1 (.v 0) (.n 16000000)] 1 (.v 0) (.n 16777216) rfl hl)))]
    cases hd : dirP d with
    | none => rw [hd] at hr; cases hr
    | some l' => rw [hd] at hr; cases hr; rfl
  refine' cl_ok M.llist (σ := [("data", .val (.bytes d)), ("refused", .unb), ("got", .unb)]) (by kernel_rfl) ?b
  case b =>
    (refine' ss_nextN ?s34 ?e34 ?r34); (case s34 => first | trivial | fail); (case e34 => (try unfold bS); first | ((with_reducible refine' Eq.trans (set_idxC ?jj34) ?jk34); (case jj34 => exact rfl); (case jk34 => dsimp only [List.set_cons_succ, List.set_cons_zero]; try exact rfl)) | ((with_reducible refine' Eq.trans (set_idx2 ?jl34 ?jm34) ?jn34); (case jl34 => exact rfl); (case jm34 => exact rfl); (case jn34 => dsimp only [List.set_cons_succ, List.set_cons_zero]; try exact rfl)) | (simp (config := { decide := true }) only [Loc.set, if_true, if_false]; exact rfl))
    (refine' ss_nextN ?s35 ?e35 ?r35); (case s35 => first | trivial | fail); (case e35 => (try unfold bS); first | ((with_reducible refine' Eq.trans (set_idxC ?jj35) ?jk35); (case jj35 => exact rfl); (case jk35 => dsimp only [List.set_cons_succ, List.set_cons_zero]; try exact rfl)) | ((with_reducible refine' Eq.trans (set_idx2 ?jl35 ?jm35) ?jn35); (case jl35 => exact rfl); (case jm35 => exact rfl); (case jn35 => dsimp only [List.set_cons_succ, List.set_cons_zero]; try exact rfl)) | (simp (config := { decide := true }) only [Loc.set, if_true, if_false]; exact rfl))
    (refine' ss_next (st_try rfl (x_call M.names ?y1 ?y2 ?y3 ?y4 hw) ?y5) ?y7); (case y4 => first | trivial | fail); (case y5 => exact rfl); (case y1 => exact rfl); (case y2 => exact rfl); (case y3 => exact Nat.le_of_ble_eq_true rfl)
    (refine' ss_retd ?s36); (case s36 => first | trivial | fail)
theorem areN_run (M : C1 C) (l : List Bs) (n : Nat) : (ev C (n + 20)).cl ("_law_are_names" : Str) [.list (bytesP' l), .list (bytesP' l)] = .ok (.bool true) := by
  have M0 := M.toCm
  have g1 := M.tlist
  have g2 := M.tbytes
  have c1 := cmp_neNames l l
  have L := for_fold (t := forT (fnOf 32).body 1) (bd := (ev C (n + 18)).ss (fnOf 32).scope (forB (fnOf 32).body 1)) (fun (a : Slot) => [("got", .val (.list (bytesP' l))), ("due", .val (.list (bytesP' l))), ("name", a)]) (fun a (b : Bs) => .val (.bytes b)) PV.bytes l .unb fun a b _ => ⟨_, rfl, by
    (refine' ss_next (st_ifF ?a37 ?b37 ?c37) ?r37); (case a37 => first | trivial | fail); (case b37 => rfl); (case c37 => exact ss_nil)
    exact ss_nil⟩
  refine' cl_ok M.areN (σ := [("got", .val (.list (bytesP' l))), ("due", .val (.list (bytesP' l))), ("name", .unb)]) (by kernel_rfl) ?b
  case b =>
    (refine' ss_next (st_ifF ?a38 ?b38 ?c38) ?r38); (case a38 => first | trivial | fail); (case b38 => simp); (case c38 => exact ss_nil)
    (refine' ss_next (st_for rfl (i_plain rfl ?k2 ?k3) ?k4) ?r2); (case k2 => first | trivial | fail); (case k3 => exact rfl); (case k4 => exact L)
    (refine' ss_retd ?s39); (case s39 => first | trivial | fail)
theorem areE_run (M : C1 C) (l : List Ent) (n : Nat) : (ev C (n + 20)).cl ("_law_are_entries" : Str) [.list (l.map entP), .list (l.map entP)] = .ok (.bool true) := by
  have M0 := M.toCm
  have g1 := M.tlist
  have g2 := M.tbytes
  have g3 := M.ttuple
  have c1 := cmp_neEnts l l
  have L := for_fold (t := forT (fnOf 33).body 1) (bd := (ev C (n + 18)).ss (fnOf 33).scope (forB (fnOf 33).body 1)) (fun (a : Slot) => [("got", .val (.list (l.map entP))), ("due", .val (.list (l.map entP))), ("item", a)]) (fun a (b : Ent) => .val (entP b)) entP l .unb fun a e _ => ⟨_, rfl, by
    have i0 := ent_0 e
    have i1 := ent_1 e
    (refine' ss_next (st_ifF ?a40 ?b40 ?c40) ?r40); (case a40 => first | trivial | fail); (case b40 => rfl); (case c40 => exact ss_nil)
    exact ss_nil⟩
  refine' cl_ok M.areE (σ := [("got", .val (.list (l.map entP))), ("due", .val (.list (l.map entP))), ("item", .unb)]) (by kernel_rfl) ?b
  case b =>
    (refine' ss_next (st_ifF ?a41 ?b41 ?c41) ?r41); (case a41 => first | trivial | fail); (case b41 => simp); (case c41 => exact ss_nil)
    (refine' ss_next (st_for rfl (i_plain rfl ?k2 ?k3) ?k4) ?r2); (case k2 => first | trivial | fail); (case k3 => exact rfl); (case k4 => exact L)
    (refine' ss_retd ?s42); (case s42 => first | trivial | fail)
end
set_option maxHeartbeats 1000000
local macro_rules | `(tactic| trivial) => `(tactic| ((with_reducible refine' st_unpack ?k1 ?k2 ?k3 ?k4); (case k1 => exact rfl); (case k2 => exact rfl); (case k3 => trivial); (case k4 => exact rfl)))
local macro_rules | `(tactic| trivial) => `(tactic| ((with_reducible refine' c_two ?k1 ?k2 ?k3); (case k1 => trivial); (case k2 => decreasing_tactic); (case k3 => trivial)))
theorem bi_one {v : Nat} (h : v < 256) : builtin1 ("bytes" : Str) (.list [.int (v : Int)]) = some (.bytes [v.toUInt8]) := bi_bytes (ab_cons h ab_nil) (Nat.le_of_ble_eq_true rfl)
local macro_rules | `(tactic| decreasing_tactic) => `(tactic| first | ((with_reducible refine bin_mod _ _ ?_ ?_) <;> first | decide | assumption | omega) | ((with_reducible refine bin_md _ _ ?_ ?_) <;> first | decide | assumption | omega) | ((with_reducible refine bin_rep ?_ ?_ ?_) <;> first | (intro q; cases q; done) | assumption | get_elem_tactic) | ((with_reducible refine bi_one ?_); first | assumption | omega) | with_reducible exact cmp_leN _ _ | with_reducible exact cmp_ltN _ _ | with_reducible exact cmp_leZ _ _ | with_reducible exact cmp_ltZ _ _)
theorem for_ret {α β : Type} {t : Expr} {bd : Loc → Rs (Outc × Loc)} (S : α → Loc) (inj : β → PV) (g : α → β → Option α) (w : PV) (I : List β → α → Prop) (hI : ∀ b bs a a', I (b :: bs) a → g a b = some a' → I bs a') :
    ∀ (xs : List β) (a : α), I xs a → (∀ b bs a, I (b :: bs) a → ∃ σ₁, assignP t (inj b) (S a) = some σ₁ ∧ ((∃ a', g a b = some a' ∧ bd σ₁ = .ok (.next, S a')) ∨ (g a b = none ∧ ∃ σ', bd σ₁ = .ok (.ret w, σ')))) →
    (∃ a', xs.foldlM g a = some a' ∧ forL t bd (xs.map inj) (S a) = .ok (.next, S a')) ∨ (xs.foldlM g a = none ∧ ∃ σ', forL t bd (xs.map inj) (S a) = .ok (.ret w, σ'))
  | [], a, _, _ => .inl ⟨a, rfl, rfl⟩
  | b :: xs, a, i, h => by
    obtain ⟨σ₁, h1, h2⟩ := h b xs a i
    rw [List.foldlM_cons]
    rcases h2 with ⟨a', h2, h3⟩ | ⟨h2, σ', h3⟩
    · rw [h2]
      rcases for_ret S inj g w I hI xs a' (hI b xs a a' i h2) h with ⟨a2, h4, h5⟩ | ⟨h4, σ2, h5⟩
      · exact .inl ⟨a2, h4, f_cons h1 h3 h5⟩
      · exact .inr ⟨h4, σ2, f_cons h1 h3 h5⟩
    · rw [h2]
      exact .inr ⟨rfl, σ', f_ret h1 h3⟩
noncomputable def shapesL : List (Nat × Nat) := [(0, 1), (1, 0), (1, 1), (2, 1), (0, 0), (1, 2), (0, 1), (2, 2), (1, 0), (255, 1), (3, 0), (300, 5)]
noncomputable def shapesV : PV := .tuple (shapesL.map fun p => .tuple [.int (p.1 : Nat), .int (p.2 : Nat)])
noncomputable def lettersL : List Nat := [97, 98, 255]
noncomputable def countsL : List Nat := [0, 1, 2, 3, 2, 3]
noncomputable def stepsL : List Nat := [1, 255, 2, 128, 64, 253]
structure D1 (C : Ctx) : Prop extends C1 C where
  shapes : C.glob ("_law_shapes" : Str) = some shapesV
  letters : C.glob ("_law_letters" : Str) = some (.tuple (natsP lettersL))
  counts : C.glob ("_law_counts" : Str) = some (.tuple (natsP countsL))
  steps : C.glob ("_law_steps" : Str) = some (.tuple (natsP stepsL))
theorem item_nats {l : List Nat} {k : Nat} (h : k < l.length) (hl : l.length ≤ 100) : itemP (.tuple (natsP l)) (.int (k : Int)) = some (.int (l.getD k 0 : Nat)) := by
  refine item_t ?_ (by rw [natsP_len]; (exact (linL [_] [.l 1 (.v 0) (.n 100)] 1 (.v 0) (.n 16777216) rfl hl)))
  rw [natsP, List.getElem?_map, List.getD, List.getElem?_eq_getElem h]
  rfl
section
variable {C : Ctx}
noncomputable def Ok1 (e : Ent) : Prop := e.1.length ≤ 1000 ∧ e.2.length ≤ 19 ∧ ∀ x ∈ e.1, x ≠ 80 ∧ x ≠ 0
theorem Ok1.sm {e : Ent} (h : Ok1 e) : Sm e := ⟨h.1, h.2.1⟩
theorem no_pk : ∀ {l : Bs}, (∀ x ∈ l, x ≠ 80) → NoPK l
  | [], _ => trivial
  | b :: l, h => by
    unfold NoPK
    split
    · rename_i q; injection q with q _; exact h b (.head _) q
    · trivial
    · rename_i q; injection q with _ q; subst q; exact no_pk fun x hx => h x (.tail _ hx)
noncomputable def eS (a b c d f : Int) (x y : Nat) (nm : Bs) (len : Nat) (q : List Nat × Slot) : Loc := [("letters", .val (.int a)), ("shape", .val (.int b)), ("size", .val (.int c)), ("first", .val (.int d)), ("step", .val (.int f)), ("head", .val (.int (x : Nat))), ("tail", .val (.int (y : Nat))), ("name", .val (.bytes nm)), ("length", .val (.int (len : Nat))), ("data", .own (natsP q.1)), ("i", q.2)]
theorem eLoop (M : D1 C) (a b c d f : Int) (x y : Nat) (nm : Bs) (len : Nat) {n : Nat} : forL (forT (fnOf 20).body 4) ((ev C (n + 10)).ss (fnOf 20).scope (forB (fnOf 20).body 4)) ((List.range 6).map fun (j : Nat) => PV.int (j : Int)) (eS a b c d f x y nm len ([], .unb)) = .ok (.next, eS a b c d f x y nm len ((List.range 6).foldl (fun q i => (if i < len then q.1 ++ [(md d 256 + md f 256 * i) % 256] else q.1, .val (.int (i : Nat)))) ([], .unb))) := by
  have M0 := M.toCm
  refine for_foldI (eS a b c d f x y nm len) (fun (q : List Nat × Slot) (i : Nat) => (if i < len then q.1 ++ [(md d 256 + md f 256 * i) % 256] else q.1, Slot.val (.int (i : Nat)))) (fun (j : Nat) => PV.int (j : Int)) (fun bs q => q.1.length + bs.length ≤ 6 ∧ ∀ i ∈ bs, i < 6) ?_ (List.range 6) _ ⟨by simp, fun i hi => List.mem_range.mp hi⟩ ?_
  · rintro i bs q ⟨h, h'⟩; refine ⟨?_, fun t ht => h' t (.tail _ ht)⟩; simp only; split <;> (simp at h ⊢; (first | exact (linL [_, _] [.l 1 (.a (.v 0) (.a (.v 1) (.n 1))) (.n 6)] 1 (.a (.a (.v 0) (.n 1)) (.v 1)) (.n 6) rfl h) | exact (linL [_, _] [.l 1 (.a (.v 0) (.a (.v 1) (.n 1))) (.n 6)] 1 (.a (.v 0) (.v 1)) (.n 6) rfl h)))
  · rintro i bs q ⟨h, h'⟩
    have p1 : (natsP q.1).length < 16777216 := by rw [natsP_len]; simp at h; (exact (linS [_, _] [.l 1 (.a (.v 0) (.a (.v 1) (.n 1))) (.n 6)] 1 (.v 0) (.n 16777216) rfl h))
    have p2 : md f 256 < 2 ^ 63 ∨ i < 2 ^ 63 := .inl (by have := md_lt f (b := 256) (by decide); (exact (linS [_] [.s 1 (.v 0) (.n 256)] 1 (.v 0) (.n (2 ^ 63)) rfl this)))
    refine ⟨_, rfl, ?_⟩
    by_cases hi : i < len
    · (refine' ss_next (st_ifT ?a1 ?a2 ?a3) ss_nil); (case a1 => first | trivial | fail); (case a2 => simpa using hi)
      case a3 =>
        (refine' ss_nextN ?s2 ?e2 ?r2); (case s2 => first | trivial | fail); (case e2 => (try unfold eS); first | ((with_reducible refine' Eq.trans (set_idxC ?jj2) ?jk2); (case jj2 => exact rfl); (case jk2 => dsimp only [List.set_cons_succ, List.set_cons_zero]; try exact rfl)) | ((with_reducible refine' Eq.trans (set_idx2 ?jl2 ?jm2) ?jn2); (case jl2 => exact rfl); (case jm2 => exact rfl); (case jn2 => dsimp only [List.set_cons_succ, List.set_cons_zero]; try exact rfl)) | (simp (config := { decide := true }) only [Loc.set, if_true, if_false]; exact rfl))
        refine ss_end ?_
        rw [if_pos hi]
        simp only [eS, natsP, List.map_append, List.map_cons, List.map_nil]
    · (refine' ss_next (st_ifF ?a3 ?b3 ?c3) ?r3); (case a3 => first | trivial | fail); (case b3 => simpa using hi); (case c3 => exact ss_nil)
      refine ss_end ?_
      rw [if_neg hi]
      exact rfl
theorem eFold (len : Nat) (g : Nat → Nat) (l : List Nat) : ∀ (q : List Nat × Slot), (∀ x ∈ q.1, x < 256) → (l.foldl (fun (q : List Nat × Slot) (i : Nat) => (if i < len then q.1 ++ [g i % 256] else q.1, Slot.val (.int (i : Nat)))) q).1.length ≤ q.1.length + l.length ∧ ∀ x ∈ (l.foldl (fun (q : List Nat × Slot) (i : Nat) => (if i < len then q.1 ++ [g i % 256] else q.1, Slot.val (.int (i : Nat)))) q).1, x < 256 := by
  induction l with
  | nil => intro q h; exact ⟨by simp, h⟩
  | cons t l ih =>
    intro q h
    rw [List.foldl_cons]
    have h' : ∀ x ∈ (if t < len then q.1 ++ [g t % 256] else q.1), x < 256 := by
      split
      · intro x hx
        rcases List.mem_append.mp hx with hx | hx
        · exact h x hx
        · rw [List.mem_singleton] at hx; subst hx; exact Nat.mod_lt _ (by decide)
      · exact h
    obtain ⟨a1, a2⟩ := ih (if t < len then q.1 ++ [g t % 256] else q.1, Slot.val (.int (t : Nat))) h'
    refine ⟨Nat.le_trans a1 ?_, a2⟩
    simp only [List.length_cons]
    split
    · rw [List.length_append]; simp; (exact (linL [_, _] [] 1 (.a (.a (.v 0) (.n 1)) (.v 1)) (.a (.v 0) (.a (.v 1) (.n 1))) rfl))
    · (exact (linL [_, _] [] 1 (.a (.v 0) (.v 1)) (.a (.v 0) (.a (.v 1) (.n 1))) rfl))
theorem entry_run (M : D1 C) (a b c d f : Int) : ∃ e : Ent, Ok1 e ∧ ∀ n, (ev C (n + 20)).cl ("_law_entry" : Str) [.int a, .int b, .int c, .int d, .int f] = .ok (entP e) := by
  have M0 := M.toCm
  have g1 := M.shapes
  have g2 := M.letters
  have m1 := md_lt b (b := 12) (by decide)
  have m2 := md_lt a (b := 3) (by decide)
  have m3 := md_lt (a / 3) (b := 3) (by decide)
  have hsh : ∃ p : Nat × Nat, itemP shapesV (.int (md b 12 : Nat)) = some (.tuple [.int (p.1 : Nat), .int (p.2 : Nat)]) ∧ p.1 ≤ 300 ∧ p.2 ≤ 5 := by
    generalize md b 12 = k at m1
    have : k = 0 ∨ k = 1 ∨ k = 2 ∨ k = 3 ∨ k = 4 ∨ k = 5 ∨ k = 6 ∨ k = 7 ∨ k = 8 ∨ k = 9 ∨ k = 10 ∨ k = 11 := by (exact (lt12 (linS [_] [.s 1 (.v 0) (.n 12)] 1 (.v 0) (.n 12) rfl m1)))
    rcases this with rfl | rfl | rfl | rfl | rfl | rfl | rfl | rfl | rfl | rfl | rfl | rfl
    all_goals first
      | exact ⟨(0, 1), rfl, by decide, by decide⟩ | exact ⟨(1, 0), rfl, by decide, by decide⟩ | exact ⟨(1, 1), rfl, by decide, by decide⟩ | exact ⟨(2, 1), rfl, by decide, by decide⟩ | exact ⟨(0, 0), rfl, by decide, by decide⟩ | exact ⟨(1, 2), rfl, by decide, by decide⟩ | exact ⟨(2, 2), rfl, by decide, by decide⟩ | exact ⟨(255, 1), rfl, by decide, by decide⟩ | exact ⟨(3, 0), rfl, by decide, by decide⟩ | exact ⟨(300, 5), rfl, by decide, by decide⟩
  obtain ⟨⟨x, y⟩, hsh, hx, hy⟩ := hsh
  simp only at hsh hx hy
  have hle : ∀ k, k < 3 → ∃ z : Nat, itemP (.tuple (natsP lettersL)) (.int (k : Nat)) = some (.int (z : Nat)) ∧ z < 256 ∧ z.toUInt8 ≠ 80 ∧ z.toUInt8 ≠ 0 := by
    intro k hk
    have : k = 0 ∨ k = 1 ∨ k = 2 := by (exact (lt3 (linS [_] [.s 1 (.v 0) (.n 3)] 1 (.v 0) (.n 3) rfl hk)))
    rcases this with rfl | rfl | rfl
    · exact ⟨97, rfl, by decide, by decide, by decide⟩
    · exact ⟨98, rfl, by decide, by decide, by decide⟩
    · exact ⟨255, rfl, by decide, by decide, by decide⟩
  obtain ⟨z, hz, z1, z2, z3⟩ := hle _ m2
  obtain ⟨w, hw, w1, w2, w3⟩ := hle _ m3
  have hF := eFold (md c 7) (fun i => md d 256 + md f 256 * i) (List.range 6) ([], .unb) (by simp)
  have hL := fun n => eLoop (n := n) M a b c d f x y ((List.replicate x [z.toUInt8]).flatten ++ (List.replicate y [w.toUInt8]).flatten) (md c 7)
  generalize (List.range 6).foldl (fun (q : List Nat × Slot) (i : Nat) => (if i < md c 7 then q.1 ++ [(md d 256 + md f 256 * i) % 256] else q.1, Slot.val (.int (i : Nat)))) ([], .unb) = q at hF hL
  obtain ⟨l, qi⟩ := q
  obtain ⟨hF1, hF2⟩ := hF
  simp only [List.length_nil, List.length_range, Nat.zero_add] at hF1 hF2
  have hab : builtin1 ("bytes" : Str) (.list (natsP l)) = some (.bytes (l.map fun i => i.toUInt8)) := by
    refine bi_bytes ?_ (by rw [natsP_len]; (exact (linL [_] [.l 1 (.v 0) (.n 6)] 1 (.v 0) (.n 16777216) rfl hF1)))
    have := ab_nats id l hF2
    rwa [List.map_id] at this
  have hx' : x ≤ 1048576 := by (exact (linL [_] [.l 1 (.v 0) (.n 300)] 1 (.v 0) (.n 1048576) rfl hx))
  have hy' : y ≤ 1048576 := by (exact (linL [_] [.l 1 (.v 0) (.n 5)] 1 (.v 0) (.n 1048576) rfl hy))
  have lx : ((List.replicate x [z.toUInt8]).flatten).length = x := by rw [rep_one, List.length_replicate]
  have ly : ((List.replicate y [w.toUInt8]).flatten).length = y := by rw [rep_one, List.length_replicate]
  have hlen : ((List.replicate x [z.toUInt8]).flatten).length + ((List.replicate y [w.toUInt8]).flatten).length ≤ 16777216 := by (exact (linL [_, _, _, _] [.l 1 (.v 0) (.n 300), .l 1 (.v 1) (.n 5), .q 1 (.v 2) (.v 0), .q 1 (.v 3) (.v 1)] 1 (.a (.v 2) (.v 3)) (.n 16777216) rfl hx hy lx ly))
  have hcat := bin_cat hlen
  refine ⟨((List.replicate x [z.toUInt8]).flatten ++ (List.replicate y [w.toUInt8]).flatten, l.map fun i => i.toUInt8), ⟨?_, ?_, ?_⟩, fun n => ?_⟩
  · rw [List.length_append, lx, ly]; (exact (linL [_, _] [.l 1 (.v 0) (.n 300), .l 1 (.v 1) (.n 5)] 1 (.a (.v 0) (.v 1)) (.n 1000) rfl hx hy))
  · rw [List.length_map]; (exact (linL [_] [.l 1 (.v 0) (.n 6)] 1 (.v 0) (.n 19) rfl hF1))
  · intro u hu
    simp only [rep_one] at hu
    rcases List.mem_append.mp hu with h | h
    · rw [(List.mem_replicate.mp h).2]; exact ⟨z2, z3⟩
    · rw [(List.mem_replicate.mp h).2]; exact ⟨w2, w3⟩
  · have hL := hL (n + 8)
    refine' cl_okE M.entry (σ := [("letters", .val (.int a)), ("shape", .val (.int b)), ("size", .val (.int c)), ("first", .val (.int d)), ("step", .val (.int f)), ("head", .unb), ("tail", .unb), ("name", .unb), ("length", .unb), ("data", .unb), ("i", .unb)]) (by kernel_rfl) ?b ?w
    case b =>
      (refine' ss_nextN ?s4 ?e4 ?r4); (case s4 => first | trivial | fail); (case e4 => (try unfold eS); first | ((with_reducible refine' Eq.trans (set_idxC ?jj4) ?jk4); (case jj4 => exact rfl); (case jk4 => dsimp only [List.set_cons_succ, List.set_cons_zero]; try exact rfl)) | ((with_reducible refine' Eq.trans (set_idx2 ?jl4 ?jm4) ?jn4); (case jl4 => exact rfl); (case jm4 => exact rfl); (case jn4 => dsimp only [List.set_cons_succ, List.set_cons_zero]; try exact rfl)) | (simp (config := { decide := true }) only [Loc.set, if_true, if_false]; exact rfl))
      (refine' ss_nextN ?s5 ?e5 ?r5); (case s5 => first | trivial | fail); (case e5 => (try unfold eS); first | ((with_reducible refine' Eq.trans (set_idxC ?jj5) ?jk5); (case jj5 => exact rfl); (case jk5 => dsimp only [List.set_cons_succ, List.set_cons_zero]; try exact rfl)) | ((with_reducible refine' Eq.trans (set_idx2 ?jl5 ?jm5) ?jn5); (case jl5 => exact rfl); (case jm5 => exact rfl); (case jn5 => dsimp only [List.set_cons_succ, List.set_cons_zero]; try exact rfl)) | (simp (config := { decide := true }) only [Loc.set, if_true, if_false]; exact rfl))
      (refine' ss_nextN ?s6 ?e6 ?r6); (case s6 => first | trivial | fail); (case e6 => (try unfold eS); first | ((with_reducible refine' Eq.trans (set_idxC ?jj6) ?jk6); (case jj6 => exact rfl); (case jk6 => dsimp only [List.set_cons_succ, List.set_cons_zero]; try exact rfl)) | ((with_reducible refine' Eq.trans (set_idx2 ?jl6 ?jm6) ?jn6); (case jl6 => exact rfl); (case jm6 => exact rfl); (case jn6 => dsimp only [List.set_cons_succ, List.set_cons_zero]; try exact rfl)) | (simp (config := { decide := true }) only [Loc.set, if_true, if_false]; exact rfl))
      (refine' ss_nextN ?s7 ?e7 ?r7); (case s7 => first | trivial | fail); (case e7 => (try unfold eS); first | ((with_reducible refine' Eq.trans (set_idxC ?jj7) ?jk7); (case jj7 => exact rfl); (case jk7 => dsimp only [List.set_cons_succ, List.set_cons_zero]; try exact rfl)) | ((with_reducible refine' Eq.trans (set_idx2 ?jl7 ?jm7) ?jn7); (case jl7 => exact rfl); (case jm7 => exact rfl); (case jn7 => dsimp only [List.set_cons_succ, List.set_cons_zero]; try exact rfl)) | (simp (config := { decide := true }) only [Loc.set, if_true, if_false]; exact rfl))
      (refine' ss_next (st_for rfl (i_range rfl rfl rfl ?k2 ?k5 ?k3) ?k4) ?r2); (case k2 => first | trivial | fail); (case k5 => exact rfl); (case k3 => exact Nat.le_of_ble_eq_true rfl); (case k4 => exact hL)
      (refine' ss_retd ?s8); (case s8 => first | trivial | fail)
    case w => exact rfl
end
set_option maxHeartbeats 1000000
theorem ex_ret {r : Rs (Outc × Loc)} {w : PV} {σ : Loc} (h : r = .ok (.ret w, σ)) : ∃ σ', r = .ok (.ret w, σ') := ⟨σ, h⟩
structure AS where
  out : List Bs
  st : Nat
  q1 : Slot
  q2 : Slot
  q3 : Slot
noncomputable def aG (p : Nat) (v : UInt8) (a : AS) (e : Ent) : Option AS :=
  if (0 ≤ (p : Int) - (a.st : Int) ∧ (p : Int) - (a.st : Int) < 16) ∨ (20 ≤ (p : Int) - (a.st : Int) ∧ (p : Int) - (a.st : Int) < 46) then none else
  if (if a.st + 46 ≤ p ∧ p < a.st + 46 + e.1.length then e.1.set (p - a.st - 46) v else e.1) ∈ a.out then none else
  some ⟨a.out ++ [if a.st + 46 ≤ p ∧ p < a.st + 46 + e.1.length then e.1.set (p - a.st - 46) v else e.1], a.st + 46 + e.1.length, .val (entP e), .val (.bytes (if a.st + 46 ≤ p ∧ p < a.st + 46 + e.1.length then e.1.set (p - a.st - 46) v else e.1)), .val (.int ((p : Int) - (a.st : Int)))⟩
noncomputable def aS (es : List Ent) (p : Nat) (v : Nat) (a : AS) : Loc := [("entries", .val (.list (es.map entP))), ("place", .val (.int (p : Nat))), ("value", .val (.int (v : Nat))), ("out", .own (bytesP' a.out)), ("start", .val (.int (a.st : Nat))), ("entry", a.q1), ("name", a.q2), ("r", a.q3)]
section
variable {C : Ctx}
theorem aLoop (M : C1 C) (es : List Ent) (p : Nat) (v : UInt8) (hs : ∀ e ∈ es, Sm e) (hn : es.length ≤ 1000) (n : Nat) :
    (∃ a', es.foldlM (aG p v) ⟨[], 0, .unb, .unb, .unb⟩ = some a' ∧ forL (forT (fnOf 28).body 2) ((ev C (n + 20)).ss (fnOf 28).scope (forB (fnOf 28).body 2)) (es.map entP) (aS es p v.toNat ⟨[], 0, .unb, .unb, .unb⟩) = .ok (.next, aS es p v.toNat a')) ∨
    (es.foldlM (aG p v) ⟨[], 0, .unb, .unb, .unb⟩ = none ∧ ∃ σ', forL (forT (fnOf 28).body 2) ((ev C (n + 20)).ss (fnOf 28).scope (forB (fnOf 28).body 2)) (es.map entP) (aS es p v.toNat ⟨[], 0, .unb, .unb, .unb⟩) = .ok (.ret .none, σ')) := by
  have M0 := M.toCm
  refine for_ret (aS es p v.toNat) entP (aG p v) .none (fun bs a => (∀ e ∈ bs, Sm e) ∧ a.out.length + bs.length ≤ 1000) ?_ es _ ⟨hs, by simpa using hn⟩ ?_
  · rintro e bs a a' ⟨h1, h2⟩ hg
    unfold aG at hg
    obtain ⟨_, hg⟩ := Option.ite_none_left_eq_some.mp hg
    obtain ⟨_, hg⟩ := Option.ite_none_left_eq_some.mp hg
    have hg := Option.some.inj hg
    subst hg
    refine ⟨fun e' he => h1 e' (.tail _ he), ?_⟩
    simp at h2 ⊢; (exact (linL [_, _] [.l 1 (.a (.v 0) (.a (.v 1) (.n 1))) (.n 1000)] 1 (.a (.a (.v 0) (.n 1)) (.v 1)) (.n 1000) rfl h2))
  · rintro e bs ⟨out, st, q1, q2, q3⟩ ⟨h1, h2⟩
    have i0 := ent_0 e
    have hsm := (h1 e (.head _)).1
    have hout : (bytesP' out).length < 16777216 := by rw [bytesP_len]; simp at h2; (exact (linS [_, _] [.l 1 (.a (.v 0) (.a (.v 1) (.n 1))) (.n 1000)] 1 (.v 0) (.n 16777216) rfl h2))
    have hv := v.toNat_lt
    refine ⟨_, rfl, ?_⟩
    by_cases cA : (0 ≤ (p : Int) - (st : Int) ∧ (p : Int) - (st : Int) < 16) ∨ (20 ≤ (p : Int) - (st : Int) ∧ (p : Int) - (st : Int) < 46)
    · have hg : aG p v ⟨out, st, q1, q2, q3⟩ e = none := by unfold aG; rw [if_pos cA]
      rw [hg]
      generalize hr : (p : Int) - (st : Int) = r at cA
      have hsub : binop .Sub (.int (p : Int)) (.int (st : Int)) = some (.int r) := by rw [← hr]; rfl
      refine' .inr ⟨rfl, ex_ret ?bq⟩
      case bq =>
        (refine' ss_nextN ?s2 ?e2 ?r2); (case s2 => first | trivial | fail); (case e2 => (try unfold aS); first | ((with_reducible refine' Eq.trans (set_idxC ?jj2) ?jk2); (case jj2 => exact rfl); (case jk2 => dsimp only [List.set_cons_succ, List.set_cons_zero]; try exact rfl)) | ((with_reducible refine' Eq.trans (set_idx2 ?jl2 ?jm2) ?jn2); (case jl2 => exact rfl); (case jm2 => exact rfl); (case jn2 => dsimp only [List.set_cons_succ, List.set_cons_zero]; try exact rfl)) | (simp (config := { decide := true }) only [Loc.set, if_true, if_false]; exact rfl))
        (refine' ss_nextN ?s3 ?e3 ?r3); (case s3 => first | trivial | fail); (case e3 => (try unfold aS); first | ((with_reducible refine' Eq.trans (set_idxC ?jj3) ?jk3); (case jj3 => exact rfl); (case jk3 => dsimp only [List.set_cons_succ, List.set_cons_zero]; try exact rfl)) | ((with_reducible refine' Eq.trans (set_idx2 ?jl3 ?jm3) ?jn3); (case jl3 => exact rfl); (case jm3 => exact rfl); (case jn3 => dsimp only [List.set_cons_succ, List.set_cons_zero]; try exact rfl)) | (simp (config := { decide := true }) only [Loc.set, if_true, if_false]; exact rfl))
        (refine' ss_nextN ?s4 ?e4 ?r4); (case s4 => first | trivial | fail); (case e4 => (try unfold aS); first | ((with_reducible refine' Eq.trans (set_idxC ?jj4) ?jk4); (case jj4 => exact rfl); (case jk4 => dsimp only [List.set_cons_succ, List.set_cons_zero]; try exact rfl)) | ((with_reducible refine' Eq.trans (set_idx2 ?jl4 ?jm4) ?jn4); (case jl4 => exact rfl); (case jm4 => exact rfl); (case jn4 => dsimp only [List.set_cons_succ, List.set_cons_zero]; try exact rfl)) | (simp (config := { decide := true }) only [Loc.set, if_true, if_false]; exact rfl))
        (refine' ss_retd (st_ifT ?a1 ?b1 ?c1)); (case a1 => first | trivial | fail); (case b1 => simp; omega)
        case c1 =>
          (refine' ss_retd ?s5); (case s5 => first | trivial | fail)
    · by_cases cB : st + 46 ≤ p ∧ p < st + 46 + e.1.length
      · have hg : aG p v ⟨out, st, q1, q2, q3⟩ e = if e.1.set (p - st - 46) v ∈ out then none else some ⟨out ++ [e.1.set (p - st - 46) v], st + 46 + e.1.length, .val (entP e), .val (.bytes (e.1.set (p - st - 46) v)), .val (.int ((p : Int) - (st : Int)))⟩ := by
          unfold aG; rw [if_neg cA]; simp only [cB, and_self, if_true]
        have hst : e.1.take (p - st - 46) ++ [v.toNat.toUInt8] ++ e.1.drop (p - st - 45) = e.1.set (p - st - 46) v := by
          rw [byte_back, List.set_eq_take_append_cons_drop, if_pos (by (exact (linS [_, _, _, _, _] [.s 1 (.v 0) (.a (.a (.v 1) (.n 46)) (.v 2)), .q 1 (.a (.v 3) (.v 1)) (.v 0), .q 1 (.a (.v 4) (.n 46)) (.v 3)] 1 (.v 4) (.v 2) rfl cB.2 (Nat.sub_add_cancel (linL [_, _] [.l 1 (.a (.v 0) (.n 46)) (.v 1)] 1 (.v 0) (.v 1) rfl cB.1)) (Nat.sub_add_cancel (linL [_, _, _] [.l 1 (.a (.v 0) (.n 46)) (.v 1), .r 1 (.a (.v 2) (.v 0)) (.v 1)] 1 (.n 46) (.v 2) rfl cB.1 (Nat.sub_add_cancel (linL [_, _] [.l 1 (.a (.v 0) (.n 46)) (.v 1)] 1 (.v 0) (.v 1) rfl cB.1))))))), List.append_assoc, show p - st - 45 = p - st - 46 + 1 by (exact (linE [_, _, _] [.q 1 (.a (.v 0) (.n 45)) (.v 1), .r 1 (.a (.v 2) (.n 46)) (.v 1)] 1 (.v 0) (.a (.v 2) (.n 1)) rfl rfl (Nat.sub_add_cancel (linL [_, _, _] [.l 1 (.a (.v 0) (.n 46)) (.v 1), .r 1 (.a (.v 2) (.v 0)) (.v 1)] 1 (.n 45) (.v 2) rfl cB.1 (Nat.sub_add_cancel (linL [_, _] [.l 1 (.a (.v 0) (.n 46)) (.v 1)] 1 (.v 0) (.v 1) rfl cB.1)))) (Nat.sub_add_cancel (linL [_, _, _] [.l 1 (.a (.v 0) (.n 46)) (.v 1), .r 1 (.a (.v 2) (.v 0)) (.v 1)] 1 (.n 46) (.v 2) rfl cB.1 (Nat.sub_add_cancel (linL [_, _] [.l 1 (.a (.v 0) (.n 46)) (.v 1)] 1 (.v 0) (.v 1) rfl cB.1))))))]; rfl
        have hm := in_names (e.1.set (p - st - 46) v) out
        have hsub : binop .Sub (.int (p : Int)) (.int (st : Int)) = some (.int ((p - st : Nat) : Int)) := bin_sub _ _ (by (exact (linL [_, _] [.l 1 (.a (.v 0) (.n 46)) (.v 1)] 1 (.v 0) (.v 1) rfl cB.1)))
        have hrr : (p : Int) - (st : Int) = ((p - st : Nat) : Int) := by (exact (iSub (linL [_, _] [.l 1 (.a (.v 0) (.n 46)) (.v 1)] 1 (.v 0) (.v 1) rfl cB.1)))
        rw [hg]
        by_cases cM : e.1.set (p - st - 46) v ∈ out
        · rw [if_pos cM]
          refine' .inr ⟨rfl, ex_ret ?bz1⟩
          case bz1 =>
            (refine' ss_nextN ?s6 ?e6 ?r6); (case s6 => first | trivial | fail); (case e6 => (try unfold aS); first | ((with_reducible refine' Eq.trans (set_idxC ?jj6) ?jk6); (case jj6 => exact rfl); (case jk6 => dsimp only [List.set_cons_succ, List.set_cons_zero]; try exact rfl)) | ((with_reducible refine' Eq.trans (set_idx2 ?jl6 ?jm6) ?jn6); (case jl6 => exact rfl); (case jm6 => exact rfl); (case jn6 => dsimp only [List.set_cons_succ, List.set_cons_zero]; try exact rfl)) | (simp (config := { decide := true }) only [Loc.set, if_true, if_false]; exact rfl))
            (refine' ss_nextN ?s7 ?e7 ?r7); (case s7 => first | trivial | fail); (case e7 => (try unfold aS); first | ((with_reducible refine' Eq.trans (set_idxC ?jj7) ?jk7); (case jj7 => exact rfl); (case jk7 => dsimp only [List.set_cons_succ, List.set_cons_zero]; try exact rfl)) | ((with_reducible refine' Eq.trans (set_idx2 ?jl7 ?jm7) ?jn7); (case jl7 => exact rfl); (case jm7 => exact rfl); (case jn7 => dsimp only [List.set_cons_succ, List.set_cons_zero]; try exact rfl)) | (simp (config := { decide := true }) only [Loc.set, if_true, if_false]; exact rfl))
            (refine' ss_nextN ?s8 ?e8 ?r8); (case s8 => first | trivial | fail); (case e8 => (try unfold aS); first | ((with_reducible refine' Eq.trans (set_idxC ?jj8) ?jk8); (case jj8 => exact rfl); (case jk8 => dsimp only [List.set_cons_succ, List.set_cons_zero]; try exact rfl)) | ((with_reducible refine' Eq.trans (set_idx2 ?jl8 ?jm8) ?jn8); (case jl8 => exact rfl); (case jm8 => exact rfl); (case jn8 => dsimp only [List.set_cons_succ, List.set_cons_zero]; try exact rfl)) | (simp (config := { decide := true }) only [Loc.set, if_true, if_false]; exact rfl))
            (refine' ss_next (st_ifF ?a9 ?b9 ?c9) ?r9); (case a9 => first | trivial | fail); (case b9 => simp; (exact (And.intro (linL [_, _, _] [.l 1 (.a (.v 0) (.n 46)) (.v 1), .r 1 (.a (.v 2) (.v 0)) (.v 1)] 1 (.n 16) (.v 2) rfl cB.1 (Nat.sub_add_cancel (linL [_, _] [.l 1 (.a (.v 0) (.n 46)) (.v 1)] 1 (.v 0) (.v 1) rfl cB.1))) (fun z0 => (linL [_, _, _] [.l 1 (.a (.v 0) (.n 46)) (.v 1), .r 1 (.a (.v 2) (.v 0)) (.v 1)] 1 (.n 46) (.v 2) rfl cB.1 (Nat.sub_add_cancel (linL [_, _] [.l 1 (.a (.v 0) (.n 46)) (.v 1)] 1 (.v 0) (.v 1) rfl cB.1))))))); (case c9 => exact ss_nil)
            (refine' ss_nextN (st_ifT ?ax2 ?bx2 ?cx2) ?ex2 ?rx2); (case ax2 => first | trivial | fail); (case bx2 => simp; (exact (And.intro (linL [_, _, _] [.l 1 (.a (.v 0) (.n 46)) (.v 1), .r 1 (.a (.v 2) (.v 0)) (.v 1)] 1 (.n 46) (.v 2) rfl cB.1 (Nat.sub_add_cancel (linL [_, _] [.l 1 (.a (.v 0) (.n 46)) (.v 1)] 1 (.v 0) (.v 1) rfl cB.1))) (linS [_, _, _, _] [.s 1 (.v 0) (.a (.a (.v 1) (.n 46)) (.v 2)), .q 1 (.a (.v 3) (.v 1)) (.v 0)] 1 (.v 3) (.a (.n 46) (.v 2)) rfl cB.2 (Nat.sub_add_cancel (linL [_, _] [.l 1 (.a (.v 0) (.n 46)) (.v 1)] 1 (.v 0) (.v 1) rfl cB.1))))))
            case cx2 =>
              (refine' ss_nextN ?s10 ?e10 ?r10); (case s10 => first | trivial | fail); (case e10 => (try unfold aS); first | ((with_reducible refine' Eq.trans (set_idxC ?jj10) ?jk10); (case jj10 => exact rfl); (case jk10 => dsimp only [List.set_cons_succ, List.set_cons_zero]; try exact rfl)) | ((with_reducible refine' Eq.trans (set_idx2 ?jl10 ?jm10) ?jn10); (case jl10 => exact rfl); (case jm10 => exact rfl); (case jn10 => dsimp only [List.set_cons_succ, List.set_cons_zero]; try exact rfl)) | (simp (config := { decide := true }) only [Loc.set, if_true, if_false]; exact rfl))
              exact ss_nil
            case ex2 => rw [hst]; try exact rfl
            (refine' ss_retd (st_ifT ?ax3 ?bx3 ?cx3)); (case ax3 => first | trivial | fail); (case bx3 => simpa using cM)
            case cx3 =>
              (refine' ss_retd ?s11); (case s11 => first | trivial | fail)
        · rw [if_neg cM]
          refine .inl ⟨_, rfl, ?_⟩
          · rw [hrr]
            (refine' ss_nextN ?s12 ?e12 ?r12); (case s12 => first | trivial | fail); (case e12 => (try unfold aS); first | ((with_reducible refine' Eq.trans (set_idxC ?jj12) ?jk12); (case jj12 => exact rfl); (case jk12 => dsimp only [List.set_cons_succ, List.set_cons_zero]; try exact rfl)) | ((with_reducible refine' Eq.trans (set_idx2 ?jl12 ?jm12) ?jn12); (case jl12 => exact rfl); (case jm12 => exact rfl); (case jn12 => dsimp only [List.set_cons_succ, List.set_cons_zero]; try exact rfl)) | (simp (config := { decide := true }) only [Loc.set, if_true, if_false]; exact rfl))
            (refine' ss_nextN ?s13 ?e13 ?r13); (case s13 => first | trivial | fail); (case e13 => (try unfold aS); first | ((with_reducible refine' Eq.trans (set_idxC ?jj13) ?jk13); (case jj13 => exact rfl); (case jk13 => dsimp only [List.set_cons_succ, List.set_cons_zero]; try exact rfl)) | ((with_reducible refine' Eq.trans (set_idx2 ?jl13 ?jm13) ?jn13); (case jl13 => exact rfl); (case jm13 => exact rfl); (case jn13 => dsimp only [List.set_cons_succ, List.set_cons_zero]; try exact rfl)) | (simp (config := { decide := true }) only [Loc.set, if_true, if_false]; exact rfl))
            (refine' ss_nextN ?s14 ?e14 ?r14); (case s14 => first | trivial | fail); (case e14 => (try unfold aS); first | ((with_reducible refine' Eq.trans (set_idxC ?jj14) ?jk14); (case jj14 => exact rfl); (case jk14 => dsimp only [List.set_cons_succ, List.set_cons_zero]; try exact rfl)) | ((with_reducible refine' Eq.trans (set_idx2 ?jl14 ?jm14) ?jn14); (case jl14 => exact rfl); (case jm14 => exact rfl); (case jn14 => dsimp only [List.set_cons_succ, List.set_cons_zero]; try exact rfl)) | (simp (config := { decide := true }) only [Loc.set, if_true, if_false]; exact rfl))
            (refine' ss_next (st_ifF ?a15 ?b15 ?c15) ?r15); (case a15 => first | trivial | fail); (case b15 => simp; (exact (And.intro (linL [_, _, _] [.l 1 (.a (.v 0) (.n 46)) (.v 1), .r 1 (.a (.v 2) (.v 0)) (.v 1)] 1 (.n 16) (.v 2) rfl cB.1 (Nat.sub_add_cancel (linL [_, _] [.l 1 (.a (.v 0) (.n 46)) (.v 1)] 1 (.v 0) (.v 1) rfl cB.1))) (fun z0 => (linL [_, _, _] [.l 1 (.a (.v 0) (.n 46)) (.v 1), .r 1 (.a (.v 2) (.v 0)) (.v 1)] 1 (.n 46) (.v 2) rfl cB.1 (Nat.sub_add_cancel (linL [_, _] [.l 1 (.a (.v 0) (.n 46)) (.v 1)] 1 (.v 0) (.v 1) rfl cB.1))))))); (case c15 => exact ss_nil)
            (refine' ss_nextN (st_ifT ?ax4 ?bx4 ?cx4) ?ex4 ?rx4); (case ax4 => first | trivial | fail); (case bx4 => simp; (exact (And.intro (linL [_, _, _] [.l 1 (.a (.v 0) (.n 46)) (.v 1), .r 1 (.a (.v 2) (.v 0)) (.v 1)] 1 (.n 46) (.v 2) rfl cB.1 (Nat.sub_add_cancel (linL [_, _] [.l 1 (.a (.v 0) (.n 46)) (.v 1)] 1 (.v 0) (.v 1) rfl cB.1))) (linS [_, _, _, _] [.s 1 (.v 0) (.a (.a (.v 1) (.n 46)) (.v 2)), .q 1 (.a (.v 3) (.v 1)) (.v 0)] 1 (.v 3) (.a (.n 46) (.v 2)) rfl cB.2 (Nat.sub_add_cancel (linL [_, _] [.l 1 (.a (.v 0) (.n 46)) (.v 1)] 1 (.v 0) (.v 1) rfl cB.1))))))
            case cx4 =>
              (refine' ss_nextN ?s16 ?e16 ?r16); (case s16 => first | trivial | fail); (case e16 => (try unfold aS); first | ((with_reducible refine' Eq.trans (set_idxC ?jj16) ?jk16); (case jj16 => exact rfl); (case jk16 => dsimp only [List.set_cons_succ, List.set_cons_zero]; try exact rfl)) | ((with_reducible refine' Eq.trans (set_idx2 ?jl16 ?jm16) ?jn16); (case jl16 => exact rfl); (case jm16 => exact rfl); (case jn16 => dsimp only [List.set_cons_succ, List.set_cons_zero]; try exact rfl)) | (simp (config := { decide := true }) only [Loc.set, if_true, if_false]; exact rfl))
              exact ss_nil
            case ex4 => rw [hst]
            (refine' ss_next (st_ifF ?a17 ?b17 ?c17) ?r17); (case a17 => first | trivial | fail); (case b17 => simpa using cM); (case c17 => exact ss_nil)
            (refine' ss_nextN ?s18 ?e18 ?r18); (case s18 => first | trivial | fail); (case e18 => (try unfold aS); first | ((with_reducible refine' Eq.trans (set_idxC ?jj18) ?jk18); (case jj18 => exact rfl); (case jk18 => dsimp only [List.set_cons_succ, List.set_cons_zero]; try exact rfl)) | ((with_reducible refine' Eq.trans (set_idx2 ?jl18 ?jm18) ?jn18); (case jl18 => exact rfl); (case jm18 => exact rfl); (case jn18 => dsimp only [List.set_cons_succ, List.set_cons_zero]; try exact rfl)) | (simp (config := { decide := true }) only [Loc.set, if_true, if_false]; exact rfl))
            refine ss_end ?_
            simp only [aS, bytesP', List.map_append, List.map_cons, List.map_nil]
      · have hg : aG p v ⟨out, st, q1, q2, q3⟩ e = if e.1 ∈ out then none else some ⟨out ++ [e.1], st + 46 + e.1.length, .val (entP e), .val (.bytes e.1), .val (.int ((p : Int) - (st : Int)))⟩ := by
          unfold aG; rw [if_neg cA]; simp only [cB, if_false]
        have hm := in_names e.1 out
        rw [hg]
        have cB' : ¬ (46 ≤ (p : Int) - (st : Int) ∧ (p : Int) - (st : Int) < ((46 + e.1.length : Nat) : Int)) := by omega
        generalize hr : (p : Int) - (st : Int) = r at cA cB'
        have hsub : binop .Sub (.int (p : Int)) (.int (st : Int)) = some (.int r) := by rw [← hr]; rfl
        by_cases cM : e.1 ∈ out
        · rw [if_pos cM]
          refine' .inr ⟨rfl, ex_ret ?bz2⟩
          case bz2 =>
            (refine' ss_nextN ?s19 ?e19 ?r19); (case s19 => first | trivial | fail); (case e19 => (try unfold aS); first | ((with_reducible refine' Eq.trans (set_idxC ?jj19) ?jk19); (case jj19 => exact rfl); (case jk19 => dsimp only [List.set_cons_succ, List.set_cons_zero]; try exact rfl)) | ((with_reducible refine' Eq.trans (set_idx2 ?jl19 ?jm19) ?jn19); (case jl19 => exact rfl); (case jm19 => exact rfl); (case jn19 => dsimp only [List.set_cons_succ, List.set_cons_zero]; try exact rfl)) | (simp (config := { decide := true }) only [Loc.set, if_true, if_false]; exact rfl))
            (refine' ss_nextN ?s20 ?e20 ?r20); (case s20 => first | trivial | fail); (case e20 => (try unfold aS); first | ((with_reducible refine' Eq.trans (set_idxC ?jj20) ?jk20); (case jj20 => exact rfl); (case jk20 => dsimp only [List.set_cons_succ, List.set_cons_zero]; try exact rfl)) | ((with_reducible refine' Eq.trans (set_idx2 ?jl20 ?jm20) ?jn20); (case jl20 => exact rfl); (case jm20 => exact rfl); (case jn20 => dsimp only [List.set_cons_succ, List.set_cons_zero]; try exact rfl)) | (simp (config := { decide := true }) only [Loc.set, if_true, if_false]; exact rfl))
            (refine' ss_nextN ?s21 ?e21 ?r21); (case s21 => first | trivial | fail); (case e21 => (try unfold aS); first | ((with_reducible refine' Eq.trans (set_idxC ?jj21) ?jk21); (case jj21 => exact rfl); (case jk21 => dsimp only [List.set_cons_succ, List.set_cons_zero]; try exact rfl)) | ((with_reducible refine' Eq.trans (set_idx2 ?jl21 ?jm21) ?jn21); (case jl21 => exact rfl); (case jm21 => exact rfl); (case jn21 => dsimp only [List.set_cons_succ, List.set_cons_zero]; try exact rfl)) | (simp (config := { decide := true }) only [Loc.set, if_true, if_false]; exact rfl))
            (refine' ss_next (st_ifF ?a22 ?b22 ?c22) ?r22); (case a22 => first | trivial | fail); (case b22 => simp; simpa using cA); (case c22 => exact ss_nil)
            (refine' ss_next (st_ifF ?a23 ?b23 ?c23) ?r23); (case a23 => first | trivial | fail); (case b23 => simp; simpa using cB'); (case c23 => exact ss_nil)
            (refine' ss_retd (st_ifT ?ax5 ?bx5 ?cx5)); (case ax5 => first | trivial | fail); (case bx5 => simpa using cM)
            case cx5 =>
              (refine' ss_retd ?s24); (case s24 => first | trivial | fail)
        · rw [if_neg cM]
          refine .inl ⟨_, rfl, ?_⟩
          · (refine' ss_nextN ?s25 ?e25 ?r25); (case s25 => first | trivial | fail); (case e25 => (try unfold aS); first | ((with_reducible refine' Eq.trans (set_idxC ?jj25) ?jk25); (case jj25 => exact rfl); (case jk25 => dsimp only [List.set_cons_succ, List.set_cons_zero]; try exact rfl)) | ((with_reducible refine' Eq.trans (set_idx2 ?jl25 ?jm25) ?jn25); (case jl25 => exact rfl); (case jm25 => exact rfl); (case jn25 => dsimp only [List.set_cons_succ, List.set_cons_zero]; try exact rfl)) | (simp (config := { decide := true }) only [Loc.set, if_true, if_false]; exact rfl))
            (refine' ss_nextN ?s26 ?e26 ?r26); (case s26 => first | trivial | fail); (case e26 => (try unfold aS); first | ((with_reducible refine' Eq.trans (set_idxC ?jj26) ?jk26); (case jj26 => exact rfl); (case jk26 => dsimp only [List.set_cons_succ, List.set_cons_zero]; try exact rfl)) | ((with_reducible refine' Eq.trans (set_idx2 ?jl26 ?jm26) ?jn26); (case jl26 => exact rfl); (case jm26 => exact rfl); (case jn26 => dsimp only [List.set_cons_succ, List.set_cons_zero]; try exact rfl)) | (simp (config := { decide := true }) only [Loc.set, if_true, if_false]; exact rfl))
            (refine' ss_nextN ?s27 ?e27 ?r27); (case s27 => first | trivial | fail); (case e27 => (try unfold aS); first | ((with_reducible refine' Eq.trans (set_idxC ?jj27) ?jk27); (case jj27 => exact rfl); (case jk27 => dsimp only [List.set_cons_succ, List.set_cons_zero]; try exact rfl)) | ((with_reducible refine' Eq.trans (set_idx2 ?jl27 ?jm27) ?jn27); (case jl27 => exact rfl); (case jm27 => exact rfl); (case jn27 => dsimp only [List.set_cons_succ, List.set_cons_zero]; try exact rfl)) | (simp (config := { decide := true }) only [Loc.set, if_true, if_false]; exact rfl))
            (refine' ss_next (st_ifF ?a28 ?b28 ?c28) ?r28); (case a28 => first | trivial | fail); (case b28 => simp; simpa using cA); (case c28 => exact ss_nil)
            (refine' ss_next (st_ifF ?a29 ?b29 ?c29) ?r29); (case a29 => first | trivial | fail); (case b29 => simp; simpa using cB'); (case c29 => exact ss_nil)
            (refine' ss_next (st_ifF ?a30 ?b30 ?c30) ?r30); (case a30 => first | trivial | fail); (case b30 => simpa using cM); (case c30 => exact ss_nil)
            (refine' ss_nextN ?s31 ?e31 ?r31); (case s31 => first | trivial | fail); (case e31 => (try unfold aS); first | ((with_reducible refine' Eq.trans (set_idxC ?jj31) ?jk31); (case jj31 => exact rfl); (case jk31 => dsimp only [List.set_cons_succ, List.set_cons_zero]; try exact rfl)) | ((with_reducible refine' Eq.trans (set_idx2 ?jl31 ?jm31) ?jn31); (case jl31 => exact rfl); (case jm31 => exact rfl); (case jn31 => dsimp only [List.set_cons_succ, List.set_cons_zero]; try exact rfl)) | (simp (config := { decide := true }) only [Loc.set, if_true, if_false]; exact rfl))
            refine ss_end ?_
            simp only [aS, bytesP', List.map_append, List.map_cons, List.map_nil]
noncomputable def AS.o (a : AS) : List Bs := a.out
theorem nd_snoc {o : List Bs} {x : Bs} (h : o.Nodup) (hx : x ∉ o) : (o ++ [x]).Nodup := by
  rw [List.nodup_append]
  exact ⟨h, by simp, by rintro a ha b hb q; simp at hb; subst hb q; exact hx ha⟩
theorem nd_mem {o l : List Bs} {x : Bs} (hx : x ∈ o) : ¬ (o ++ x :: l).Nodup := by
  rw [List.nodup_append]
  rintro ⟨_, _, h⟩
  exact h x hx x (by simp) rfl
abbrev cA1 (p st : Nat) : Prop := (0 ≤ (p : Int) - (st : Int) ∧ (p : Int) - (st : Int) < 16) ∨ (20 ≤ (p : Int) - (st : Int) ∧ (p : Int) - (st : Int) < 46)
theorem cA1_of {p st : Nat} (h : st ≤ p) (c : p - st < 16 ∨ (20 ≤ p - st ∧ p - st < 46)) : cA1 p st := by
  unfold cA1
  rw [iSub h]
  exact c.imp (fun q => ⟨i0 _, iLt (k := 16) q⟩) fun q => ⟨iLe (b := 20) q.1, iLt (k := 46) q.2⟩
theorem cA1_no {p st : Nat} (h : st ≤ p) (c : ¬ (p - st < 16 ∨ (20 ≤ p - st ∧ p - st < 46))) : ¬ cA1 p st := by
  unfold cA1
  rw [iSub h]
  exact fun q => c (q.imp (fun q => Int.ofNat_lt.mp q.2) fun q => ⟨Int.ofNat_le.mp q.1, Int.ofNat_lt.mp q.2⟩)
theorem cA1_lt {p st : Nat} (h : p < st) : ¬ cA1 p st := by
  have k : ¬ (0 : Int) ≤ (p : Int) - (st : Int) := Int.not_le.mpr (Int.sub_neg_of_lt (iLt h))
  exact fun q => q.elim (fun q => k q.1) fun q => k (Int.le_trans (by decide) q.1)
theorem aG_bad {p : Nat} {v : UInt8} {a : AS} {e : Ent} (h : cA1 p a.st) : aG p v a e = none := by unfold aG; rw [if_pos h]
theorem aG_set {p : Nat} {v : UInt8} {a : AS} {e : Ent} (h : ¬ cA1 p a.st) (c : a.st + 46 ≤ p ∧ p < a.st + 46 + e.1.length) : aG p v a e = if e.1.set (p - a.st - 46) v ∈ a.out then none else some ⟨a.out ++ [e.1.set (p - a.st - 46) v], a.st + 46 + e.1.length, .val (entP e), .val (.bytes (e.1.set (p - a.st - 46) v)), .val (.int ((p : Int) - (a.st : Int)))⟩ := by
  unfold aG; rw [if_neg h]; simp only [c, and_self, if_true]
theorem aG_keep {p : Nat} {v : UInt8} {a : AS} {e : Ent} (h : ¬ cA1 p a.st) (c : ¬ (a.st + 46 ≤ p ∧ p < a.st + 46 + e.1.length)) : aG p v a e = if e.1 ∈ a.out then none else some ⟨a.out ++ [e.1], a.st + 46 + e.1.length, .val (entP e), .val (.bytes e.1), .val (.int ((p : Int) - (a.st : Int)))⟩ := by
  unfold aG; rw [if_neg h]; simp only [c, if_false]
theorem aPast (p : Nat) (v : UInt8) : ∀ (es : List Ent) (a : AS), p < a.st → a.out.Nodup → (es.foldlM (aG p v) a).map AS.o = if (a.out ++ es.map (·.1)).Nodup then some (a.out ++ es.map (·.1)) else none
  | [], a, _, h => by simp [AS.o, h]
  | e :: es, a, h, hn => by
    rw [List.foldlM_cons, aG_keep (cA1_lt h) (by (exact (fun z0 => (linF [_, _] [.s 1 (.v 0) (.v 1), .l 1 (.a (.v 1) (.n 46)) (.v 0)] rfl h z0.1))))]
    by_cases c3 : e.1 ∈ a.out
    · rw [if_pos c3, List.map_cons, if_neg (nd_mem c3)]; rfl
    · rw [if_neg c3]
      show ((es.foldlM (aG p v) _).map AS.o) = _
      rw [aPast p v es _ (by simp only; (exact (linS [_, _, _] [.s 1 (.v 0) (.v 1)] 1 (.v 0) (.a (.a (.v 1) (.n 46)) (.v 2)) rfl h))) (nd_snoc hn c3)]
      simp
theorem aAfter (p : Nat) (v : UInt8) : ∀ (es : List Ent) (a : AS), a.st ≤ p → p < a.st + rsize (es.map rowOf) → a.out.Nodup → (es.foldlM (aG p v) a).map AS.o = (namesAfter (es.map (·.1)) (p - a.st) v).bind fun l => if (a.out ++ l).Nodup then some (a.out ++ l) else none
  | [], a, h, h', _ => by simp [rsize] at h'; (exact (False.elim (linF [_, _] [.l 1 (.v 0) (.v 1), .s 1 (.v 1) (.v 0)] rfl h h')))
  | e :: es, a, h, h', hn => by
    have hrr : (rowOf e).1.length = e.1.length := rfl
    simp only [rsize, List.map_cons, List.sum_cons, hrr] at h'
    rw [List.foldlM_cons, List.map_cons, namesAfter]
    by_cases c1 : p - a.st < 16 ∨ (20 ≤ p - a.st ∧ p - a.st < 46)
    · rw [aG_bad (cA1_of h c1), if_pos c1]; rfl
    rw [if_neg c1]
    have c1' : ¬ cA1 p a.st := cA1_no h c1
    by_cases c2 : p - a.st < 20
    · rw [if_pos c2, aG_keep c1' (by (exact (fun z0 => (linF [_, _, _] [.s 1 (.v 0) (.n 20), .l 1 (.a (.v 1) (.n 46)) (.v 2), .r 1 (.a (.v 0) (.v 1)) (.v 2)] rfl c2 z0.1 (Nat.sub_add_cancel (linL [_, _] [.l 1 (.a (.v 0) (.n 46)) (.v 1)] 1 (.v 0) (.v 1) rfl z0.1))))))]
      show _ = if _ then _ else _
      by_cases c4 : e.1 ∈ a.out
      · rw [if_pos c4, if_neg (nd_mem c4)]; rfl
      · rw [if_neg c4]
        show ((es.foldlM (aG p v) _).map AS.o) = _
        rw [aPast p v es _ (by simp only; (exact (linS [_, _, _, _] [.s 1 (.v 0) (.n 20), .r 1 (.a (.v 0) (.v 1)) (.v 2)] 1 (.v 2) (.a (.a (.v 1) (.n 46)) (.v 3)) rfl c2 (Nat.sub_add_cancel (linL [_, _] [.l 1 (.v 0) (.v 1)] 1 (.v 0) (.v 1) rfl h))))) (nd_snoc hn c4)]
        simp
    rw [if_neg c2]
    by_cases c3 : p - a.st < 46 + e.1.length
    · rw [if_pos c3, aG_set c1' (by
        have c5 : 46 ≤ p - a.st := Nat.le_of_not_lt fun q => c1 (.inr ⟨Nat.le_of_not_lt c2, q⟩)
        have c6 := Nat.sub_add_cancel h
        exact ⟨linL [_, _, _] [.l 1 (.n 46) (.v 0), .q 1 (.a (.v 0) (.v 1)) (.v 2)] 1 (.a (.v 1) (.n 46)) (.v 2) rfl c5 c6, linS [_, _, _, _] [.s 1 (.v 0) (.a (.n 46) (.v 1)), .r 1 (.a (.v 0) (.v 2)) (.v 3)] 1 (.v 3) (.a (.a (.v 2) (.n 46)) (.v 1)) rfl c3 c6⟩)]
      show _ = if _ then _ else _
      by_cases c4 : e.1.set (p - a.st - 46) v ∈ a.out
      · rw [if_pos c4, if_neg (nd_mem c4)]; rfl
      · rw [if_neg c4]
        show ((es.foldlM (aG p v) _).map AS.o) = _
        rw [aPast p v es _ (by simp only; (exact (linS [_, _, _, _] [.s 1 (.v 0) (.a (.n 46) (.v 1)), .r 1 (.a (.v 0) (.v 2)) (.v 3)] 1 (.v 3) (.a (.a (.v 2) (.n 46)) (.v 1)) rfl c3 (Nat.sub_add_cancel (linL [_, _] [.l 1 (.v 0) (.v 1)] 1 (.v 0) (.v 1) rfl h))))) (nd_snoc hn c4)]
        simp
    · rw [if_neg c3, aG_keep c1' (by (exact (fun z0 => (linF [_, _, _, _] [.l 1 (.a (.n 46) (.v 0)) (.v 1), .s 1 (.v 2) (.a (.a (.v 3) (.n 46)) (.v 0)), .q 1 (.a (.v 1) (.v 3)) (.v 2)] rfl (Nat.le_of_not_lt c3) z0.2 (Nat.sub_add_cancel (linL [_, _] [.l 1 (.a (.v 0) (.n 46)) (.v 1)] 1 (.v 0) (.v 1) rfl z0.1))))))]
      by_cases c4 : e.1 ∈ a.out
      · rw [if_pos c4]
        cases namesAfter (es.map (·.1)) (p - a.st - (46 + e.1.length)) v with
        | none => rfl
        | some l => show _ = if _ then _ else _; rw [if_neg (nd_mem c4)]; rfl
      · rw [if_neg c4]
        show ((es.foldlM (aG p v) _).map AS.o) = _
        rw [aAfter p v es _ (by simp only; (exact (linL [_, _, _, _] [.l 1 (.a (.n 46) (.v 0)) (.v 1), .q 1 (.a (.v 1) (.v 2)) (.v 3)] 1 (.a (.a (.v 2) (.n 46)) (.v 0)) (.v 3) rfl (Nat.le_of_not_lt c3) (Nat.sub_add_cancel (linL [_, _] [.l 1 (.v 0) (.v 1)] 1 (.v 0) (.v 1) rfl h))))) (by simp only [rsize]; (exact (linS [_, _, _, _] [.s 1 (.v 0) (.a (.v 1) (.a (.a (.n 46) (.v 2)) (.v 3)))] 1 (.v 0) (.a (.a (.a (.v 1) (.n 46)) (.v 2)) (.v 3)) rfl h'))) (nd_snoc hn c4)]
        simp only
        rw [show p - (a.st + 46 + e.1.length) = p - a.st - (46 + e.1.length) by rw [Nat.add_assoc, Nat.sub_sub]]
        cases namesAfter (es.map (·.1)) (p - a.st - (46 + e.1.length)) v with
        | none => rfl
        | some l => simp
noncomputable def optN : Option (List Bs) → PV
  | none => .none
  | some l => .list (bytesP' l)
theorem after_run (M : C1 C) (es : List Ent) (p : Nat) (v : UInt8) (n : Nat) (hs : ∀ e ∈ es, Sm e) (hn : es.length ≤ 100) (hp : p < (middle 0 es).length) : (ev C (n + 30)).cl ("_law_names_after" : Str) [.list (es.map entP), .int (p : Int), .int (v.toNat : Int)] = .ok (optN (noDup (namesAfter (es.map (·.1)) p v))) := by
  have M0 := M.toCm
  have hf : Fit es := (small_fit ⟨hn, hs⟩).1
  have hA := aAfter p v es ⟨[], 0, .unb, .unb, .unb⟩ (Nat.zero_le _) (by rw [← middle_len hf]; simpa using hp) (by simp)
  simp only [List.nil_append, Nat.sub_zero] at hA
  have hA : (es.foldlM (aG p v) ⟨[], 0, .unb, .unb, .unb⟩).map AS.o = noDup (namesAfter (es.map (·.1)) p v) := hA
  rw [← hA]
  rcases aLoop (C := C) M es p v hs (by (exact (linL [_] [.l 1 (.v 0) (.n 100)] 1 (.v 0) (.n 1000) rfl hn))) (n + 8) with ⟨a', h1, h2⟩ | ⟨h1, σ', h2⟩
  · rw [h1]
    refine' cl_okE M.after (σ := [("entries", .val (.list (es.map entP))), ("place", .val (.int p)), ("value", .val (.int v.toNat)), ("out", .unb), ("start", .unb), ("entry", .unb), ("name", .unb), ("r", .unb)]) (by kernel_rfl) ?b ?w
    case b =>
      (refine' ss_nextN ?s32 ?e32 ?r32); (case s32 => first | trivial | fail); (case e32 => (try unfold aS); first | ((with_reducible refine' Eq.trans (set_idxC ?jj32) ?jk32); (case jj32 => exact rfl); (case jk32 => dsimp only [List.set_cons_succ, List.set_cons_zero]; try exact rfl)) | ((with_reducible refine' Eq.trans (set_idx2 ?jl32 ?jm32) ?jn32); (case jl32 => exact rfl); (case jm32 => exact rfl); (case jn32 => dsimp only [List.set_cons_succ, List.set_cons_zero]; try exact rfl)) | (simp (config := { decide := true }) only [Loc.set, if_true, if_false]; exact rfl))
      (refine' ss_nextN ?s33 ?e33 ?r33); (case s33 => first | trivial | fail); (case e33 => (try unfold aS); first | ((with_reducible refine' Eq.trans (set_idxC ?jj33) ?jk33); (case jj33 => exact rfl); (case jk33 => dsimp only [List.set_cons_succ, List.set_cons_zero]; try exact rfl)) | ((with_reducible refine' Eq.trans (set_idx2 ?jl33 ?jm33) ?jn33); (case jl33 => exact rfl); (case jm33 => exact rfl); (case jn33 => dsimp only [List.set_cons_succ, List.set_cons_zero]; try exact rfl)) | (simp (config := { decide := true }) only [Loc.set, if_true, if_false]; exact rfl))
      (refine' ss_next (st_for rfl (i_plain rfl ?k2 ?k3) ?k4) ?rx2); (case k2 => first | trivial | fail); (case k3 => exact rfl); (case k4 => exact h2)
      (refine' ss_retd ?s34); (case s34 => first | trivial | fail)
    case w => exact rfl
  · rw [h1]
    refine' cl_ok M.after (σ := [("entries", .val (.list (es.map entP))), ("place", .val (.int p)), ("value", .val (.int v.toNat)), ("out", .unb), ("start", .unb), ("entry", .unb), ("name", .unb), ("r", .unb)]) (by kernel_rfl) ?bb
    case bb =>
      (refine' ss_nextN ?s35 ?e35 ?r35); (case s35 => first | trivial | fail); (case e35 => (try unfold aS); first | ((with_reducible refine' Eq.trans (set_idxC ?jj35) ?jk35); (case jj35 => exact rfl); (case jk35 => dsimp only [List.set_cons_succ, List.set_cons_zero]; try exact rfl)) | ((with_reducible refine' Eq.trans (set_idx2 ?jl35 ?jm35) ?jn35); (case jl35 => exact rfl); (case jm35 => exact rfl); (case jn35 => dsimp only [List.set_cons_succ, List.set_cons_zero]; try exact rfl)) | (simp (config := { decide := true }) only [Loc.set, if_true, if_false]; exact rfl))
      (refine' ss_nextN ?s36 ?e36 ?r36); (case s36 => first | trivial | fail); (case e36 => (try unfold aS); first | ((with_reducible refine' Eq.trans (set_idxC ?jj36) ?jk36); (case jj36 => exact rfl); (case jk36 => dsimp only [List.set_cons_succ, List.set_cons_zero]; try exact rfl)) | ((with_reducible refine' Eq.trans (set_idx2 ?jl36 ?jm36) ?jn36); (case jl36 => exact rfl); (case jm36 => exact rfl); (case jn36 => dsimp only [List.set_cons_succ, List.set_cons_zero]; try exact rfl)) | (simp (config := { decide := true }) only [Loc.set, if_true, if_false]; exact rfl))
      (refine' ss_retd (st_for rfl (i_plain rfl ?kk2 ?kk3) ?kk4)); (case kk2 => first | trivial | fail); (case kk3 => exact rfl); (case kk4 => exact h2)
end
set_option maxHeartbeats 600000
theorem sl3 {a b c : Ent} {k : Nat} {es : List Ent} (h : [a, b, c].take k = es) : sliceP (.list [entP a, entP b, entP c]) none (some (.int (k : Int))) = some (.list (es.map entP)) := by
  rw [sliceL_to (by simp), ← h, List.map_take]; rfl
theorem after_run' {C : Ctx} (M : C1 C) (es : List Ent) (p w : Nat) (n : Nat) (hw : w < 256) (hs : ∀ e ∈ es, Sm e) (hn : es.length ≤ 100) (hp : p < (middle 0 es).length) : (ev C (n + 30)).cl ("_law_names_after" : Str) [.list (es.map entP), .int (p : Int), .int (w : Int)] = .ok (optN (noDup (namesAfter (es.map (·.1)) p w.toUInt8))) := by
  have h := after_run M es p w.toUInt8 n hs hn hp
  have e : w.toUInt8.toNat = w := by simp; (exact (linS [_] [.s 1 (.v 0) (.n 256)] 1 (.v 0) (.n 256) rfl hw))
  rw [e] at h
  exact h
theorem comp_fold {α β : Type} {t : Expr} {elt : Loc → Rs (PV × Loc)} (S : α → Loc) (inj f : β → PV) (g : α → β → α) : ∀ (xs : List β) (a : α), (∀ a b, b ∈ xs → ∃ σ₁, assignP t (inj b) (S a) = some σ₁ ∧ elt σ₁ = .ok (f b, S (g a b))) → compL t elt (xs.map inj) (S a) = .ok (xs.map f)
  | [], _, _ => rfl
  | b :: xs, a, h => by
    obtain ⟨σ₁, h1, h2⟩ := h a b (.head _)
    rw [List.map_cons, compL, h1]
    simp only [Rs.of, Rs.ok_bind, h2]
    rw [comp_fold S inj f g xs (g a b) fun a' b' hb => h a' b' (.tail _ hb)]
    rfl
local macro_rules | `(tactic| trivial) => `(tactic| ((refine' t_val ?k1 ?k2 ?k3); (case k1 => exact rfl); (case k2 => trivial); (case k3 => exact rfl)))
local macro_rules | `(tactic| decreasing_tactic) => `(tactic| first | with_reducible exact cmp_neO _ _ | with_reducible exact cmp_neEnts _ _ | with_reducible exact cmp_neNames _ _ | ((with_reducible refine sc_item (m := 19) ?_ ?_ ?_) <;> first | exact rfl | assumption) | ((with_reducible refine sl3 ?_); assumption) | with_reducible exact areN_run (by assumption) _ _ | with_reducible exact areE_run (by assumption) _ _ | with_reducible exact end_run (by assumption) _ _ _ _ | ((with_reducible refine lread_none (by assumption) _ _ ?_ ?_) <;> first | assumption | (get_elem_tactic; done)) | ((with_reducible refine' lread_some (by assumption) _ ?k0 _ ?k1 ?k2); (case k2 => assumption); (case k1 => first | assumption | (get_elem_tactic; done))) | ((with_reducible refine llist_none (by assumption) _ _ ?_ ?_) <;> first | assumption | (get_elem_tactic; done)) | ((with_reducible refine' llist_some (by assumption) _ ?k0 _ ?k1 ?k2); (case k2 => assumption); (case k1 => first | assumption | (get_elem_tactic; done))) | ((with_reducible refine after_run' (by assumption) _ _ _ _ ?_ ?_ ?_ ?_) <;> first | assumption | omega))
section
variable {C : Ctx} {q1 q2 q3 q4 q5 q6 q7 q8 q9 q10 q11 q12 q13 q14 q15 q16 q17 q18 q19 q20 q21 q22 q23 q24 q25 q26 : Slot}
theorem fin1 (M : D1 C) (F Md T : Bs) (l : Option (List Bs)) (ht : Tells (F ++ Md ++ T) l) (n : Nat) : Res ((ev C (n + 119)).ss (fnOf 34).scope ((fnOf 34).body.drop 31) [("script", q1), ("one", q2), ("two", q3), ("three", q4), ("count", q5), ("entries", q6), ("handed", q7), ("bad", q8), ("front", .val (.bytes F)), ("middle", .val (.bytes Md)), ("tail", .val (.bytes T)), ("whole", q12), ("refused", q13), ("got", q14), ("read_refused", q15), ("back", q16), ("list_refused", q17), ("listed", q18), ("plain", q19), ("zone", q20), ("part", q21), ("place", q22), ("value", q23), ("kind", q24), ("due", .val (optN l)), ("damaged", q26)]) (some (.bool true)) := by
  have M1 := M.toC1
  have M0 := M.toCm
  have f1 := M.lread
  have f2 := M.llist
  have f3 := M.areN
  obtain ⟨h1, h2, h3⟩ := ht
  have h4 := h3
  simp only [List.length_append] at h4
  cases l with
  | none =>
    simp only [optN]
    (refine' res_step ?s2 ?e2 ?r2); (case s2 => first | trivial | fail); (case e2 => first | ((with_reducible refine' Eq.trans (set_idxC ?jj2) ?jk2); (case jj2 => exact rfl); (case jk2 => dsimp only [List.set_cons_succ, List.set_cons_zero]; try exact rfl)) | ((with_reducible refine' Eq.trans (set_idx2 ?jl2 ?jm2) ?jn2); (case jl2 => exact rfl); (case jm2 => exact rfl); (case jn2 => dsimp only [List.set_cons_succ, List.set_cons_zero]; try exact rfl)) | (simp (config := { decide := true }) only [Loc.set, if_true, if_false]; exact rfl))
    (refine' res_step ?s3 ?e3 ?r3); (case s3 => first | trivial | fail); (case e3 => first | ((with_reducible refine' Eq.trans (set_idxC ?jj3) ?jk3); (case jj3 => exact rfl); (case jk3 => dsimp only [List.set_cons_succ, List.set_cons_zero]; try exact rfl)) | ((with_reducible refine' Eq.trans (set_idx2 ?jl3 ?jm3) ?jn3); (case jl3 => exact rfl); (case jm3 => exact rfl); (case jn3 => dsimp only [List.set_cons_succ, List.set_cons_zero]; try exact rfl)) | (simp (config := { decide := true }) only [Loc.set, if_true, if_false]; exact rfl))
    (refine' res_step (st_ifF ?a4 ?b4 ?c4) rfl ?r4); (case a4 => first | trivial | fail); (case b4 => rfl); (case c4 => exact ss_nil)
    (refine' res_step ?s5 ?e5 ?r5); (case s5 => first | trivial | fail); (case e5 => first | ((with_reducible refine' Eq.trans (set_idxC ?jj5) ?jk5); (case jj5 => exact rfl); (case jk5 => dsimp only [List.set_cons_succ, List.set_cons_zero]; try exact rfl)) | ((with_reducible refine' Eq.trans (set_idx2 ?jl5 ?jm5) ?jn5); (case jl5 => exact rfl); (case jm5 => exact rfl); (case jn5 => dsimp only [List.set_cons_succ, List.set_cons_zero]; try exact rfl)) | (simp (config := { decide := true }) only [Loc.set, if_true, if_false]; exact rfl))
    (refine' res_step (st_ifT ?ax1 ?bx1 ?cx1) rfl ?rx1); (case ax1 => first | trivial | fail); (case bx1 => exact rfl)
    case cx1 =>
      (refine' ss_next (st_ifF ?a6 ?b6 ?c6) ?r6); (case a6 => first | trivial | fail); (case b6 => rfl); (case c6 => exact ss_nil)
      exact ss_nil
    (refine' res_ret ?s7); (case s7 => first | trivial | fail)
  | some l =>
    simp only [optN]
    (refine' res_step ?s8 ?e8 ?r8); (case s8 => first | trivial | fail); (case e8 => first | ((with_reducible refine' Eq.trans (set_idxC ?jj8) ?jk8); (case jj8 => exact rfl); (case jk8 => dsimp only [List.set_cons_succ, List.set_cons_zero]; try exact rfl)) | ((with_reducible refine' Eq.trans (set_idx2 ?jl8 ?jm8) ?jn8); (case jl8 => exact rfl); (case jm8 => exact rfl); (case jn8 => dsimp only [List.set_cons_succ, List.set_cons_zero]; try exact rfl)) | (simp (config := { decide := true }) only [Loc.set, if_true, if_false]; exact rfl))
    (refine' res_step ?s9 ?e9 ?r9); (case s9 => first | trivial | fail); (case e9 => first | ((with_reducible refine' Eq.trans (set_idxC ?jj9) ?jk9); (case jj9 => exact rfl); (case jk9 => dsimp only [List.set_cons_succ, List.set_cons_zero]; try exact rfl)) | ((with_reducible refine' Eq.trans (set_idx2 ?jl9 ?jm9) ?jn9); (case jl9 => exact rfl); (case jm9 => exact rfl); (case jn9 => dsimp only [List.set_cons_succ, List.set_cons_zero]; try exact rfl)) | (simp (config := { decide := true }) only [Loc.set, if_true, if_false]; exact rfl))
    (refine' res_step (st_ifF ?a10 ?b10 ?c10) rfl ?r10); (case a10 => first | trivial | fail); (case b10 => rfl); (case c10 => exact ss_nil)
    (refine' res_step ?s11 ?e11 ?r11); (case s11 => first | trivial | fail); (case e11 => first | ((with_reducible refine' Eq.trans (set_idxC ?jj11) ?jk11); (case jj11 => exact rfl); (case jk11 => dsimp only [List.set_cons_succ, List.set_cons_zero]; try exact rfl)) | ((with_reducible refine' Eq.trans (set_idx2 ?jl11 ?jm11) ?jn11); (case jl11 => exact rfl); (case jm11 => exact rfl); (case jn11 => dsimp only [List.set_cons_succ, List.set_cons_zero]; try exact rfl)) | (simp (config := { decide := true }) only [Loc.set, if_true, if_false]; exact rfl))
    (refine' res_step (st_ifF ?ax2 ?bx2 ?cx2) rfl ?rx2); (case ax2 => first | trivial | fail); (case bx2 => exact rfl)
    case cx2 =>
      (refine' ss_next (st_ifF ?a12 ?b12 ?c12) ?r12); (case a12 => first | trivial | fail); (case b12 => rfl); (case c12 => exact ss_nil)
      exact ss_nil
    (refine' res_ret ?s13); (case s13 => first | trivial | fail)
theorem put0 (M : D1 C) (ns : List Int) (h19 : 19 ≤ ns.length) (h63 : ns.length ≤ 63) (es : List Ent) (pt : Bs) (l : Option (List Bs)) (h1 : Tells (pt ++ middle 0 es ++ tailB es) l) (h2 : Tells (pt ++ middle 0 es ++ endB es.length (middle 0 es).length pt.length) l) (n : Nat) : Res ((ev C (n + 119)).ss (fnOf 34).scope ((fnOf 34).body.drop 29) [("script", .val (.list (ns.map .int))), ("one", q2), ("two", q3), ("three", q4), ("count", .val (.int (es.length : Nat))), ("entries", .val (.list (es.map entP))), ("handed", q7), ("bad", q8), ("front", .val (.bytes (front es))), ("middle", .val (.bytes (middle 0 es))), ("tail", .val (.bytes (tailB es))), ("whole", q12), ("refused", q13), ("got", q14), ("read_refused", q15), ("back", q16), ("list_refused", q17), ("listed", q18), ("plain", .val (.list (bytesP' (es.map (·.1))))), ("zone", .val (.int (0 : Nat))), ("part", .val (.bytes pt)), ("place", q22), ("value", q23), ("kind", q24), ("due", .val (optN l)), ("damaged", q26)]) (some (.bool true)) := by
  have M1 := M.toC1
  have M0 := M.toCm
  have f1 := M.end_
  have k1 := h1.2.2
  simp only [List.length_append] at k1
  (refine' res_step (st_ifT ?ax1 ?bx1 ?cx1) ?ex1 ?rx1); (case ax1 => first | trivial | fail); (case bx1 => exact rfl)
  case cx1 =>
    (refine' ss_nextN ?s14 ?e14 ?r14); (case s14 => first | trivial | fail); (case e14 => first | ((with_reducible refine' Eq.trans (set_idxC ?jj14) ?jk14); (case jj14 => exact rfl); (case jk14 => dsimp only [List.set_cons_succ, List.set_cons_zero]; try exact rfl)) | ((with_reducible refine' Eq.trans (set_idx2 ?jl14 ?jm14) ?jn14); (case jl14 => exact rfl); (case jm14 => exact rfl); (case jn14 => dsimp only [List.set_cons_succ, List.set_cons_zero]; try exact rfl)) | (simp (config := { decide := true }) only [Loc.set, if_true, if_false]; exact rfl))
    exact ss_nil
  case ex1 => exact rfl
  by_cases hm : md (cell ns 18) 2 = 1
  · (refine' res_step (st_ifT ?ax2 ?bx2 ?cx2) ?ex2 ?rx2); (case ax2 => first | trivial | fail); (case bx2 => simp [hm])
    case cx2 =>
      (refine' ss_nextN ?s15 ?e15 ?r15); (case s15 => first | trivial | fail); (case e15 => first | ((with_reducible refine' Eq.trans (set_idxC ?jj15) ?jk15); (case jj15 => exact rfl); (case jk15 => dsimp only [List.set_cons_succ, List.set_cons_zero]; try exact rfl)) | ((with_reducible refine' Eq.trans (set_idx2 ?jl15 ?jm15) ?jn15); (case jl15 => exact rfl); (case jm15 => exact rfl); (case jn15 => dsimp only [List.set_cons_succ, List.set_cons_zero]; try exact rfl)) | (simp (config := { decide := true }) only [Loc.set, if_true, if_false]; exact rfl))
      exact ss_nil
    case ex2 => exact rfl
    exact fin1 M pt (middle 0 es) _ l h2 n
  · (refine' res_step (st_ifF ?a16 ?b16 ?c16) rfl ?r16); (case a16 => first | trivial | fail); (case b16 => simp [hm]); (case c16 => exact ss_nil)
    exact fin1 M pt (middle 0 es) _ l h1 n
theorem put1 (M : D1 C) (ns : List Int) (h19 : 19 ≤ ns.length) (h63 : ns.length ≤ 63) (es : List Ent) (pt : Bs) (l : Option (List Bs)) (h1 : Tells (front es ++ pt ++ tailB es) l) (h2 : Tells (front es ++ pt ++ endB es.length pt.length (front es).length) l) (n : Nat) : Res ((ev C (n + 119)).ss (fnOf 34).scope ((fnOf 34).body.drop 29) [("script", .val (.list (ns.map .int))), ("one", q2), ("two", q3), ("three", q4), ("count", .val (.int (es.length : Nat))), ("entries", .val (.list (es.map entP))), ("handed", q7), ("bad", q8), ("front", .val (.bytes (front es))), ("middle", .val (.bytes (middle 0 es))), ("tail", .val (.bytes (tailB es))), ("whole", q12), ("refused", q13), ("got", q14), ("read_refused", q15), ("back", q16), ("list_refused", q17), ("listed", q18), ("plain", .val (.list (bytesP' (es.map (·.1))))), ("zone", .val (.int (1 : Nat))), ("part", .val (.bytes pt)), ("place", q22), ("value", q23), ("kind", q24), ("due", .val (optN l)), ("damaged", q26)]) (some (.bool true)) := by
  have M1 := M.toC1
  have M0 := M.toCm
  have f1 := M.end_
  have k1 := h1.2.2
  simp only [List.length_append] at k1
  (refine' res_step (st_ifF ?ax1 ?bx1 ?cx1) ?ex1 ?rx1); (case ax1 => first | trivial | fail); (case bx1 => exact rfl)
  case cx1 =>
    (refine' ss_next (st_ifT ?ax4 ?bx4 ?cx4) ?rx4); (case ax4 => first | trivial | fail); (case bx4 => exact rfl)
    case cx4 =>
      (refine' ss_nextN ?s17 ?e17 ?r17); (case s17 => first | trivial | fail); (case e17 => first | ((with_reducible refine' Eq.trans (set_idxC ?jj17) ?jk17); (case jj17 => exact rfl); (case jk17 => dsimp only [List.set_cons_succ, List.set_cons_zero]; try exact rfl)) | ((with_reducible refine' Eq.trans (set_idx2 ?jl17 ?jm17) ?jn17); (case jl17 => exact rfl); (case jm17 => exact rfl); (case jn17 => dsimp only [List.set_cons_succ, List.set_cons_zero]; try exact rfl)) | (simp (config := { decide := true }) only [Loc.set, if_true, if_false]; exact rfl))
      exact ss_nil
    exact ss_nil
  case ex1 => exact rfl
  by_cases hm : md (cell ns 18) 2 = 1
  · (refine' res_step (st_ifT ?ax2 ?bx2 ?cx2) ?ex2 ?rx2); (case ax2 => first | trivial | fail); (case bx2 => simp [hm])
    case cx2 =>
      (refine' ss_nextN ?s18 ?e18 ?r18); (case s18 => first | trivial | fail); (case e18 => first | ((with_reducible refine' Eq.trans (set_idxC ?jj18) ?jk18); (case jj18 => exact rfl); (case jk18 => dsimp only [List.set_cons_succ, List.set_cons_zero]; try exact rfl)) | ((with_reducible refine' Eq.trans (set_idx2 ?jl18 ?jm18) ?jn18); (case jl18 => exact rfl); (case jm18 => exact rfl); (case jn18 => dsimp only [List.set_cons_succ, List.set_cons_zero]; try exact rfl)) | (simp (config := { decide := true }) only [Loc.set, if_true, if_false]; exact rfl))
      exact ss_nil
    case ex2 => exact rfl
    exact fin1 M (front es) pt _ l h2 n
  · (refine' res_step (st_ifF ?a19 ?b19 ?c19) rfl ?r19); (case a19 => first | trivial | fail); (case b19 => simp [hm]); (case c19 => exact ss_nil)
    exact fin1 M (front es) pt _ l h1 n
theorem put2 (M : D1 C) (ns : List Int) (h19 : 19 ≤ ns.length) (h63 : ns.length ≤ 63) (es : List Ent) (pt : Bs) (l : Option (List Bs)) (h1 : Tells (front es ++ middle 0 es ++ pt) l) (n : Nat) : Res ((ev C (n + 119)).ss (fnOf 34).scope ((fnOf 34).body.drop 29) [("script", .val (.list (ns.map .int))), ("one", q2), ("two", q3), ("three", q4), ("count", .val (.int (es.length : Nat))), ("entries", .val (.list (es.map entP))), ("handed", q7), ("bad", q8), ("front", .val (.bytes (front es))), ("middle", .val (.bytes (middle 0 es))), ("tail", .val (.bytes (tailB es))), ("whole", q12), ("refused", q13), ("got", q14), ("read_refused", q15), ("back", q16), ("list_refused", q17), ("listed", q18), ("plain", .val (.list (bytesP' (es.map (·.1))))), ("zone", .val (.int (2 : Nat))), ("part", .val (.bytes pt)), ("place", q22), ("value", q23), ("kind", q24), ("due", .val (optN l)), ("damaged", q26)]) (some (.bool true)) := by
  have M1 := M.toC1
  have M0 := M.toCm
  (refine' res_step (st_ifF ?ax1 ?bx1 ?cx1) ?ex1 ?rx1); (case ax1 => first | trivial | fail); (case bx1 => exact rfl)
  case cx1 =>
    (refine' ss_next (st_ifF ?ax4 ?bx4 ?cx4) ?rx4); (case ax4 => first | trivial | fail); (case bx4 => exact rfl)
    case cx4 =>
      (refine' ss_nextN ?s20 ?e20 ?r20); (case s20 => first | trivial | fail); (case e20 => first | ((with_reducible refine' Eq.trans (set_idxC ?jj20) ?jk20); (case jj20 => exact rfl); (case jk20 => dsimp only [List.set_cons_succ, List.set_cons_zero]; try exact rfl)) | ((with_reducible refine' Eq.trans (set_idx2 ?jl20 ?jm20) ?jn20); (case jl20 => exact rfl); (case jm20 => exact rfl); (case jn20 => dsimp only [List.set_cons_succ, List.set_cons_zero]; try exact rfl)) | (simp (config := { decide := true }) only [Loc.set, if_true, if_false]; exact rfl))
      exact ss_nil
    exact ss_nil
  case ex1 => exact rfl
  (refine' res_step (st_ifF ?a21 ?b21 ?c21) rfl ?r21); (case a21 => first | trivial | fail); (case b21 => simp); (case c21 => exact ss_nil)
  exact fin1 M (front es) (middle 0 es) _ l h1 n
theorem step_ne {x s w : Nat} (hs : s % 256 ≠ 0) (hw : (x + s) % 256 = w) (h : w % 256 = x) : False := by omega
theorem dmg0 (M : D1 C) (ns : List Int) (h19 : 19 ≤ ns.length) (h63 : ns.length ≤ 63) (es : List Ent) (G : Good es) (hk : ∀ e ∈ es, Ok1 e) (h0 : (front es).length ≠ 0) (n : Nat) : Res ((ev C (n + 119)).ss (fnOf 34).scope ((fnOf 34).body.drop 24) [("script", .val (.list (ns.map .int))), ("one", q2), ("two", q3), ("three", q4), ("count", .val (.int (es.length : Nat))), ("entries", .val (.list (es.map entP))), ("handed", q7), ("bad", q8), ("front", .val (.bytes (front es))), ("middle", .val (.bytes (middle 0 es))), ("tail", .val (.bytes (tailB es))), ("whole", q12), ("refused", q13), ("got", q14), ("read_refused", q15), ("back", q16), ("list_refused", q17), ("listed", q18), ("plain", .val (.list (bytesP' (es.map (·.1))))), ("zone", .val (.int (0 : Nat))), ("part", .val (.bytes (front es))), ("place", q22), ("value", q23), ("kind", q24), ("due", q25), ("damaged", q26)]) (some (.bool true)) := by
  have M1 := M.toC1
  have M0 := M.toCm
  have f1 := M.after
  have f2 := M.steps
  have k1 := G.fl
  have k2 := G.ml
  have k3 : (tailB es).length = 22 := rfl
  have hn4 := G.n
  have hsm : ∀ e ∈ es, Sm e := fun e he => (hk e he).sm
  have hp : md (cell ns 16) (front es).length < (front es).length := md_lt _ (by (exact (Nat.lt_of_not_le fun z0 => ((Nat.lt_or_gt_of_ne h0).elim (fun y4 => (linF [_] [.s 1 (.v 0) (.n 0)] rfl y4)) (fun y4 => (linF [_] [.l 1 (.v 0) (.n 0), .s 1 (.n 0) (.v 0)] rfl z0 y4))))))
  have hx := item_b (get_getD hp) (by (exact (linL [_] [.l 1 (.v 0) (.n 4196)] 1 (.v 0) (.n 16777216) rfl k1)))
  have hgx := get_getD hp
  have hst : ∃ s : Nat, itemP (.tuple (natsP stepsL)) (.int (md (cell ns 17) 6 : Nat)) = some (.int (s : Nat)) ∧ s % 256 ≠ 0 := by
    have m1 := md_lt (cell ns 17) (b := 6) (by decide)
    generalize md (cell ns 17) 6 = k at m1
    have : k = 0 ∨ k = 1 ∨ k = 2 ∨ k = 3 ∨ k = 4 ∨ k = 5 := by (exact (lt6 (linS [_] [.s 1 (.v 0) (.n 6)] 1 (.v 0) (.n 6) rfl m1)))
    rcases this with rfl | rfl | rfl | rfl | rfl | rfl
    all_goals exact ⟨_, item_nats (by decide) (by decide), by decide⟩
  obtain ⟨s, hst, hs0⟩ := hst
  generalize hxd : (front es).getD (md (cell ns 16) (front es).length) 0 = x at hx hgx
  have hx256 := x.toNat_lt
  generalize hw : (x.toNat + s) % 256 = w
  have hw256 : w < 256 := by (exact (linS [_, _] [.s 1 (.v 0) (.n 256), .r 1 (.v 0) (.v 1)] 1 (.v 1) (.n 256) rfl (Nat.mod_lt _ (by decide)) hw))
  have hwx : w.toUInt8 ≠ x := by
    intro q
    have := congrArg UInt8.toNat q
    simp at this
    exact step_ne hs0 hw this
  have hv : (front es)[md (cell ns 16) (front es).length]? ≠ some w.toUInt8 := by
    rw [hgx]; intro q; exact hwx (Option.some.inj q).symm
  (refine' res_step ?s22 ?e22 ?r22); (case s22 => first | trivial | fail); (case e22 => first | ((with_reducible refine' Eq.trans (set_idxC ?jj22) ?jk22); (case jj22 => exact rfl); (case jk22 => dsimp only [List.set_cons_succ, List.set_cons_zero]; try exact rfl)) | ((with_reducible refine' Eq.trans (set_idx2 ?jl22 ?jm22) ?jn22); (case jl22 => exact rfl); (case jm22 => exact rfl); (case jn22 => dsimp only [List.set_cons_succ, List.set_cons_zero]; try exact rfl)) | (simp (config := { decide := true }) only [Loc.set, if_true, if_false]; exact rfl))
  (refine' res_step ?s23 ?e23 ?r23); (case s23 => first | trivial | fail); (case e23 => first | ((with_reducible refine' Eq.trans (set_idxC ?jj23) ?jk23); (case jj23 => exact rfl); (case jk23 => dsimp only [List.set_cons_succ, List.set_cons_zero]; try exact rfl)) | ((with_reducible refine' Eq.trans (set_idx2 ?jl23 ?jm23) ?jn23); (case jl23 => exact rfl); (case jm23 => exact rfl); (case jn23 => dsimp only [List.set_cons_succ, List.set_cons_zero]; try exact rfl)) | (simp (config := { decide := true }) only [Loc.set, if_true, if_false]; exact rfl))
  rw [hw]
  (refine' res_step ?s24 ?e24 ?r24); (case s24 => first | trivial | fail); (case e24 => first | ((with_reducible refine' Eq.trans (set_idxC ?jj24) ?jk24); (case jj24 => exact rfl); (case jk24 => dsimp only [List.set_cons_succ, List.set_cons_zero]; try exact rfl)) | ((with_reducible refine' Eq.trans (set_idx2 ?jl24 ?jm24) ?jn24); (case jl24 => exact rfl); (case jm24 => exact rfl); (case jn24 => dsimp only [List.set_cons_succ, List.set_cons_zero]; try exact rfl)) | (simp (config := { decide := true }) only [Loc.set, if_true, if_false]; exact rfl))
  (refine' res_step ?s25 ?e25 ?r25); (case s25 => first | trivial | fail); (case e25 => first | ((with_reducible refine' Eq.trans (set_idxC ?jj25) ?jk25); (case jj25 => exact rfl); (case jk25 => dsimp only [List.set_cons_succ, List.set_cons_zero]; try exact rfl)) | ((with_reducible refine' Eq.trans (set_idx2 ?jl25 ?jm25) ?jn25); (case jl25 => exact rfl); (case jm25 => exact rfl); (case jn25 => dsimp only [List.set_cons_succ, List.set_cons_zero]; try exact rfl)) | (simp (config := { decide := true }) only [Loc.set, if_true, if_false]; exact rfl))
  have hkd := md_lt (cell ns 14) (b := 4) (by decide)
  generalize md (cell ns 14) 4 = k at hkd
  have hk3 : k < 2 ∨ k = 2 ∨ k = 3 := by (exact (Decidable.byContradiction fun z0 => ((Nat.lt_or_gt_of_ne (not_or.mp (not_or.mp z0).2).1).elim (fun y4 => (linF [_] [.l 1 (.n 2) (.v 0), .s 1 (.v 0) (.n 2)] rfl (Nat.le_of_not_lt (not_or.mp z0).1) y4)) (fun y4 => ((Nat.lt_or_gt_of_ne (not_or.mp (not_or.mp z0).2).2).elim (fun y3 => (linF [_] [.s 1 (.n 2) (.v 0), .s 1 (.v 0) (.n 3)] rfl y4 y3)) (fun y3 => (linF [_] [.s 1 (.v 0) (.n 4), .s 1 (.n 3) (.v 0)] rfl hkd y3)))))))
  rcases hk3 with hk3 | rfl | rfl
  · (refine' res_step (st_ifT ?ax1 ?bx1 ?cx1) ?ex1 ?rx1); (case ax1 => first | trivial | fail); (case bx1 => simpa using hk3)
    case cx1 =>
      (refine' ss_nextN ?s26 ?e26 ?r26); (case s26 => first | trivial | fail); (case e26 => first | ((with_reducible refine' Eq.trans (set_idxC ?jj26) ?jk26); (case jj26 => exact rfl); (case jk26 => dsimp only [List.set_cons_succ, List.set_cons_zero]; try exact rfl)) | ((with_reducible refine' Eq.trans (set_idx2 ?jl26 ?jm26) ?jn26); (case jl26 => exact rfl); (case jm26 => exact rfl); (case jn26 => dsimp only [List.set_cons_succ, List.set_cons_zero]; try exact rfl)) | (simp (config := { decide := true }) only [Loc.set, if_true, if_false]; exact rfl))
      (refine' ss_next (st_ifT ?ay1 ?by1 ?cy1) ?ry1); (case ay1 => first | trivial | fail); (case by1 => exact rfl)
      case cy1 =>
        (refine' ss_nextN ?s27 ?e27 ?r27); (case s27 => first | trivial | fail); (case e27 => first | ((with_reducible refine' Eq.trans (set_idxC ?jj27) ?jk27); (case jj27 => exact rfl); (case jk27 => dsimp only [List.set_cons_succ, List.set_cons_zero]; try exact rfl)) | ((with_reducible refine' Eq.trans (set_idx2 ?jl27 ?jm27) ?jn27); (case jl27 => exact rfl); (case jm27 => exact rfl); (case jn27 => dsimp only [List.set_cons_succ, List.set_cons_zero]; try exact rfl)) | (simp (config := { decide := true }) only [Loc.set, if_true, if_false]; exact rfl))
        exact ss_nil
      (refine' ss_next (st_ifF ?a28 ?b28 ?c28) ?r28); (case a28 => first | trivial | fail); (case b28 => rfl); (case c28 => exact ss_nil)
      exact ss_nil
    case ex1 => rw [set_at hp]
    have ht := t_turn0 G hp hv
    exact put0 M ns h19 h63 es _ _ ht (by rw [List.length_set]; exact ht) n
  · (refine' res_step (st_ifF ?ax2 ?bx2 ?cx2) ?ex2 ?rx2); (case ax2 => first | trivial | fail); (case bx2 => exact rfl)
    case cx2 =>
      (refine' ss_next (st_ifT ?ay2 ?by2 ?cy2) ?ry2); (case ay2 => first | trivial | fail); (case by2 => exact rfl)
      case cy2 =>
        (refine' ss_nextN ?s29 ?e29 ?r29); (case s29 => first | trivial | fail); (case e29 => first | ((with_reducible refine' Eq.trans (set_idxC ?jj29) ?jk29); (case jj29 => exact rfl); (case jk29 => dsimp only [List.set_cons_succ, List.set_cons_zero]; try exact rfl)) | ((with_reducible refine' Eq.trans (set_idx2 ?jl29 ?jm29) ?jn29); (case jl29 => exact rfl); (case jm29 => exact rfl); (case jn29 => dsimp only [List.set_cons_succ, List.set_cons_zero]; try exact rfl)) | (simp (config := { decide := true }) only [Loc.set, if_true, if_false]; exact rfl))
        exact ss_nil
      exact ss_nil
    case ex2 => exact rfl
    have hl2 : ((front es).take (md (cell ns 16) (front es).length) ++ (front es).drop (md (cell ns 16) (front es).length + 1)).length = (front es).length - 1 := by simp only [List.length_append, List.length_take, List.length_drop]; (exact (linE [_, _, _, _, _] [.q 1 (.v 0) (.v 1), .q 1 (.a (.v 2) (.a (.v 1) (.n 1))) (.v 3), .r 1 (.a (.v 4) (.n 1)) (.v 3)] 1 (.a (.v 0) (.v 2)) (.v 4) rfl rfl (Nat.min_eq_left (linL [_, _] [.s 1 (.v 0) (.v 1)] 1 (.v 0) (.v 1) rfl hp)) (Nat.sub_add_cancel (linL [_, _] [.s 1 (.v 0) (.v 1)] 1 (.a (.v 0) (.n 1)) (.v 1) rfl hp)) (Nat.sub_add_cancel (linL [_, _] [.s 1 (.v 0) (.v 1)] 1 (.n 1) (.v 1) rfl hp))))
    exact put0 M ns h19 h63 es _ none (t_lose0 G hp) (t_mend G (by (exact (linL [_, _, _] [.l 1 (.v 0) (.n 4196), .q 1 (.v 1) (.v 2), .q 1 (.a (.v 2) (.n 1)) (.v 0)] 1 (.v 1) (.n 5000) rfl k1 hl2 (Nat.sub_add_cancel (linL [_, _] [.s 1 (.v 0) (.v 1)] 1 (.n 1) (.v 1) rfl hp))))) (by (exact (fun z0 => (linF [_, _, _] [.q 1 (.v 0) (.v 1), .r 1 (.v 0) (.v 2), .q 1 (.a (.v 1) (.n 1)) (.v 2)] rfl hl2 z0 (Nat.sub_add_cancel (linL [_, _] [.s 1 (.v 0) (.v 1)] 1 (.n 1) (.v 1) rfl hp))))))) n
  · (refine' res_step (st_ifF ?ax3 ?bx3 ?cx3) ?ex3 ?rx3); (case ax3 => first | trivial | fail); (case bx3 => exact rfl)
    case cx3 =>
      (refine' ss_next (st_ifF ?ay3 ?by3 ?cy3) ?ry3); (case ay3 => first | trivial | fail); (case by3 => exact rfl)
      case cy3 =>
        (refine' ss_nextN ?s30 ?e30 ?r30); (case s30 => first | trivial | fail); (case e30 => first | ((with_reducible refine' Eq.trans (set_idxC ?jj30) ?jk30); (case jj30 => exact rfl); (case jk30 => dsimp only [List.set_cons_succ, List.set_cons_zero]; try exact rfl)) | ((with_reducible refine' Eq.trans (set_idx2 ?jl30 ?jm30) ?jn30); (case jl30 => exact rfl); (case jm30 => exact rfl); (case jn30 => dsimp only [List.set_cons_succ, List.set_cons_zero]; try exact rfl)) | (simp (config := { decide := true }) only [Loc.set, if_true, if_false]; exact rfl))
        exact ss_nil
      exact ss_nil
    case ex3 => exact rfl
    rw [List.append_assoc ((front es).take _), show [w.toUInt8] ++ (front es).drop (md (cell ns 16) (front es).length) = w.toUInt8 :: (front es).drop (md (cell ns 16) (front es).length) from rfl]
    have hl2 : ((front es).take (md (cell ns 16) (front es).length) ++ w.toUInt8 :: (front es).drop (md (cell ns 16) (front es).length)).length = (front es).length + 1 := by simp only [List.length_append, List.length_take, List.length_drop, List.length_cons]; (exact (linE [_, _, _, _] [.q 1 (.v 0) (.v 1), .q 1 (.a (.v 2) (.v 1)) (.v 3)] 1 (.a (.v 0) (.a (.v 2) (.n 1))) (.a (.v 3) (.n 1)) rfl rfl (Nat.min_eq_left (linL [_, _] [.s 1 (.v 0) (.v 1)] 1 (.v 0) (.v 1) rfl hp)) (Nat.sub_add_cancel (linL [_, _] [.s 1 (.v 0) (.v 1)] 1 (.v 0) (.v 1) rfl hp))))
    exact put0 M ns h19 h63 es _ none (t_add0 G hp) (t_mend G (by (exact (linL [_, _] [.l 1 (.v 0) (.n 4196), .q 1 (.v 1) (.a (.v 0) (.n 1))] 1 (.v 1) (.n 5000) rfl k1 hl2))) (by (exact (fun z0 => (linF [_, _] [.r 1 (.v 0) (.a (.v 1) (.n 1)), .q 1 (.v 0) (.v 1)] rfl hl2 z0))))) n
theorem dmg1 (M : D1 C) (ns : List Int) (h19 : 19 ≤ ns.length) (h63 : ns.length ≤ 63) (es : List Ent) (G : Good es) (hk : ∀ e ∈ es, Ok1 e) (h0 : (middle 0 es).length ≠ 0) (n : Nat) : Res ((ev C (n + 119)).ss (fnOf 34).scope ((fnOf 34).body.drop 24) [("script", .val (.list (ns.map .int))), ("one", q2), ("two", q3), ("three", q4), ("count", .val (.int (es.length : Nat))), ("entries", .val (.list (es.map entP))), ("handed", q7), ("bad", q8), ("front", .val (.bytes (front es))), ("middle", .val (.bytes (middle 0 es))), ("tail", .val (.bytes (tailB es))), ("whole", q12), ("refused", q13), ("got", q14), ("read_refused", q15), ("back", q16), ("list_refused", q17), ("listed", q18), ("plain", .val (.list (bytesP' (es.map (·.1))))), ("zone", .val (.int (1 : Nat))), ("part", .val (.bytes (middle 0 es))), ("place", q22), ("value", q23), ("kind", q24), ("due", q25), ("damaged", q26)]) (some (.bool true)) := by
  have M1 := M.toC1
  have M0 := M.toCm
  have f1 := M.after
  have f2 := M.steps
  have k1 := G.fl
  have k2 := G.ml
  have k3 : (tailB es).length = 22 := rfl
  have hn4 := G.n
  have hsm : ∀ e ∈ es, Sm e := fun e he => (hk e he).sm
  have hp : md (cell ns 16) (middle 0 es).length < (middle 0 es).length := md_lt _ (by (exact (Nat.lt_of_not_le fun z0 => ((Nat.lt_or_gt_of_ne h0).elim (fun y4 => (linF [_] [.s 1 (.v 0) (.n 0)] rfl y4)) (fun y4 => (linF [_] [.l 1 (.v 0) (.n 0), .s 1 (.n 0) (.v 0)] rfl z0 y4))))))
  have hx := item_b (get_getD hp) (by (exact (linL [_] [.l 1 (.v 0) (.n 4184)] 1 (.v 0) (.n 16777216) rfl k2)))
  have hgx := get_getD hp
  have hst : ∃ s : Nat, itemP (.tuple (natsP stepsL)) (.int (md (cell ns 17) 6 : Nat)) = some (.int (s : Nat)) ∧ s % 256 ≠ 0 := by
    have m1 := md_lt (cell ns 17) (b := 6) (by decide)
    generalize md (cell ns 17) 6 = k at m1
    have : k = 0 ∨ k = 1 ∨ k = 2 ∨ k = 3 ∨ k = 4 ∨ k = 5 := by (exact (lt6 (linS [_] [.s 1 (.v 0) (.n 6)] 1 (.v 0) (.n 6) rfl m1)))
    rcases this with rfl | rfl | rfl | rfl | rfl | rfl
    all_goals exact ⟨_, item_nats (by decide) (by decide), by decide⟩
  obtain ⟨s, hst, hs0⟩ := hst
  generalize hxd : (middle 0 es).getD (md (cell ns 16) (middle 0 es).length) 0 = x at hx hgx
  have hx256 := x.toNat_lt
  generalize hw : (x.toNat + s) % 256 = w
  have hw256 : w < 256 := by (exact (linS [_, _] [.s 1 (.v 0) (.n 256), .r 1 (.v 0) (.v 1)] 1 (.v 1) (.n 256) rfl (Nat.mod_lt _ (by decide)) hw))
  have hwx : w.toUInt8 ≠ x := by
    intro q
    have := congrArg UInt8.toNat q
    simp at this
    exact step_ne hs0 hw this
  have hv : (middle 0 es)[md (cell ns 16) (middle 0 es).length]? ≠ some w.toUInt8 := by
    rw [hgx]; intro q; exact hwx (Option.some.inj q).symm
  (refine' res_step ?s31 ?e31 ?r31); (case s31 => first | trivial | fail); (case e31 => first | ((with_reducible refine' Eq.trans (set_idxC ?jj31) ?jk31); (case jj31 => exact rfl); (case jk31 => dsimp only [List.set_cons_succ, List.set_cons_zero]; try exact rfl)) | ((with_reducible refine' Eq.trans (set_idx2 ?jl31 ?jm31) ?jn31); (case jl31 => exact rfl); (case jm31 => exact rfl); (case jn31 => dsimp only [List.set_cons_succ, List.set_cons_zero]; try exact rfl)) | (simp (config := { decide := true }) only [Loc.set, if_true, if_false]; exact rfl))
  (refine' res_step ?s32 ?e32 ?r32); (case s32 => first | trivial | fail); (case e32 => first | ((with_reducible refine' Eq.trans (set_idxC ?jj32) ?jk32); (case jj32 => exact rfl); (case jk32 => dsimp only [List.set_cons_succ, List.set_cons_zero]; try exact rfl)) | ((with_reducible refine' Eq.trans (set_idx2 ?jl32 ?jm32) ?jn32); (case jl32 => exact rfl); (case jm32 => exact rfl); (case jn32 => dsimp only [List.set_cons_succ, List.set_cons_zero]; try exact rfl)) | (simp (config := { decide := true }) only [Loc.set, if_true, if_false]; exact rfl))
  rw [hw]
  (refine' res_step ?s33 ?e33 ?r33); (case s33 => first | trivial | fail); (case e33 => first | ((with_reducible refine' Eq.trans (set_idxC ?jj33) ?jk33); (case jj33 => exact rfl); (case jk33 => dsimp only [List.set_cons_succ, List.set_cons_zero]; try exact rfl)) | ((with_reducible refine' Eq.trans (set_idx2 ?jl33 ?jm33) ?jn33); (case jl33 => exact rfl); (case jm33 => exact rfl); (case jn33 => dsimp only [List.set_cons_succ, List.set_cons_zero]; try exact rfl)) | (simp (config := { decide := true }) only [Loc.set, if_true, if_false]; exact rfl))
  (refine' res_step ?s34 ?e34 ?r34); (case s34 => first | trivial | fail); (case e34 => first | ((with_reducible refine' Eq.trans (set_idxC ?jj34) ?jk34); (case jj34 => exact rfl); (case jk34 => dsimp only [List.set_cons_succ, List.set_cons_zero]; try exact rfl)) | ((with_reducible refine' Eq.trans (set_idx2 ?jl34 ?jm34) ?jn34); (case jl34 => exact rfl); (case jm34 => exact rfl); (case jn34 => dsimp only [List.set_cons_succ, List.set_cons_zero]; try exact rfl)) | (simp (config := { decide := true }) only [Loc.set, if_true, if_false]; exact rfl))
  have hkd := md_lt (cell ns 14) (b := 4) (by decide)
  generalize md (cell ns 14) 4 = k at hkd
  have hk3 : k < 2 ∨ k = 2 ∨ k = 3 := by (exact (Decidable.byContradiction fun z0 => ((Nat.lt_or_gt_of_ne (not_or.mp (not_or.mp z0).2).1).elim (fun y4 => (linF [_] [.l 1 (.n 2) (.v 0), .s 1 (.v 0) (.n 2)] rfl (Nat.le_of_not_lt (not_or.mp z0).1) y4)) (fun y4 => ((Nat.lt_or_gt_of_ne (not_or.mp (not_or.mp z0).2).2).elim (fun y3 => (linF [_] [.s 1 (.n 2) (.v 0), .s 1 (.v 0) (.n 3)] rfl y4 y3)) (fun y3 => (linF [_] [.s 1 (.v 0) (.n 4), .s 1 (.n 3) (.v 0)] rfl hkd y3)))))))
  rcases hk3 with hk3 | rfl | rfl
  · (refine' res_step (st_ifT ?ax1 ?bx1 ?cx1) ?ex1 ?rx1); (case ax1 => first | trivial | fail); (case bx1 => simpa using hk3)
    case cx1 =>
      (refine' ss_nextN ?s35 ?e35 ?r35); (case s35 => first | trivial | fail); (case e35 => first | ((with_reducible refine' Eq.trans (set_idxC ?jj35) ?jk35); (case jj35 => exact rfl); (case jk35 => dsimp only [List.set_cons_succ, List.set_cons_zero]; try exact rfl)) | ((with_reducible refine' Eq.trans (set_idx2 ?jl35 ?jm35) ?jn35); (case jl35 => exact rfl); (case jm35 => exact rfl); (case jn35 => dsimp only [List.set_cons_succ, List.set_cons_zero]; try exact rfl)) | (simp (config := { decide := true }) only [Loc.set, if_true, if_false]; exact rfl))
      (refine' ss_next (st_ifF ?a36 ?b36 ?c36) ?r36); (case a36 => first | trivial | fail); (case b36 => rfl); (case c36 => exact ss_nil)
      (refine' ss_next (st_ifT ?ay1 ?by1 ?cy1) ?ry1); (case ay1 => first | trivial | fail); (case by1 => exact rfl)
      case cy1 =>
        (refine' ss_nextN ?s37 ?e37 ?r37); (case s37 => first | trivial | fail); (case e37 => first | ((with_reducible refine' Eq.trans (set_idxC ?jj37) ?jk37); (case jj37 => exact rfl); (case jk37 => dsimp only [List.set_cons_succ, List.set_cons_zero]; try exact rfl)) | ((with_reducible refine' Eq.trans (set_idx2 ?jl37 ?jm37) ?jn37); (case jl37 => exact rfl); (case jm37 => exact rfl); (case jn37 => dsimp only [List.set_cons_succ, List.set_cons_zero]; try exact rfl)) | (simp (config := { decide := true }) only [Loc.set, if_true, if_false]; exact rfl))
        exact ss_nil
      exact ss_nil
    case ex1 => rw [set_at hp]
    have ht := t_turn1 G hp hv
    exact put1 M ns h19 h63 es _ _ ht (by rw [List.length_set]; exact ht) n
  · (refine' res_step (st_ifF ?ax2 ?bx2 ?cx2) ?ex2 ?rx2); (case ax2 => first | trivial | fail); (case bx2 => exact rfl)
    case cx2 =>
      (refine' ss_next (st_ifT ?ay2 ?by2 ?cy2) ?ry2); (case ay2 => first | trivial | fail); (case by2 => exact rfl)
      case cy2 =>
        (refine' ss_nextN ?s38 ?e38 ?r38); (case s38 => first | trivial | fail); (case e38 => first | ((with_reducible refine' Eq.trans (set_idxC ?jj38) ?jk38); (case jj38 => exact rfl); (case jk38 => dsimp only [List.set_cons_succ, List.set_cons_zero]; try exact rfl)) | ((with_reducible refine' Eq.trans (set_idx2 ?jl38 ?jm38) ?jn38); (case jl38 => exact rfl); (case jm38 => exact rfl); (case jn38 => dsimp only [List.set_cons_succ, List.set_cons_zero]; try exact rfl)) | (simp (config := { decide := true }) only [Loc.set, if_true, if_false]; exact rfl))
        exact ss_nil
      exact ss_nil
    case ex2 => exact rfl
    have hl2 : ((middle 0 es).take (md (cell ns 16) (middle 0 es).length) ++ (middle 0 es).drop (md (cell ns 16) (middle 0 es).length + 1)).length = (middle 0 es).length - 1 := by simp only [List.length_append, List.length_take, List.length_drop]; (exact (linE [_, _, _, _, _] [.q 1 (.v 0) (.v 1), .q 1 (.a (.v 2) (.a (.v 1) (.n 1))) (.v 3), .r 1 (.a (.v 4) (.n 1)) (.v 3)] 1 (.a (.v 0) (.v 2)) (.v 4) rfl rfl (Nat.min_eq_left (linL [_, _] [.s 1 (.v 0) (.v 1)] 1 (.v 0) (.v 1) rfl hp)) (Nat.sub_add_cancel (linL [_, _] [.s 1 (.v 0) (.v 1)] 1 (.a (.v 0) (.n 1)) (.v 1) rfl hp)) (Nat.sub_add_cancel (linL [_, _] [.s 1 (.v 0) (.v 1)] 1 (.n 1) (.v 1) rfl hp))))
    refine put1 M ns h19 h63 es _ none (t_lose1 G hp) ?_ n
    rw [hl2]
    refine .no (lose_mid G.fit G.g (by have := G.al; (exact (linL [_] [.l 1 (.v 0) (.n 8402)] 1 (.v 0) (.n 16777216) rfl this))) G.cl (fun e he q => ?_) hp) (by simp only [List.length_append, hl2, endB_length]; (exact (linL [_, _, _] [.l 1 (.v 0) (.n 4196), .l 1 (.v 1) (.n 4184), .q 1 (.a (.v 2) (.n 1)) (.v 1)] 1 (.a (.a (.v 0) (.v 2)) (.n 22)) (.n 100000) rfl k1 k2 (Nat.sub_add_cancel (linL [_, _] [.s 1 (.v 0) (.v 1)] 1 (.n 1) (.v 1) rfl hp)))))
    obtain ⟨_, _, h⟩ := hk e he
    exact (h 0 (List.mem_of_mem_head? q)).2 rfl
  · (refine' res_step (st_ifF ?ax3 ?bx3 ?cx3) ?ex3 ?rx3); (case ax3 => first | trivial | fail); (case bx3 => exact rfl)
    case cx3 =>
      (refine' ss_next (st_ifF ?ay3 ?by3 ?cy3) ?ry3); (case ay3 => first | trivial | fail); (case by3 => exact rfl)
      case cy3 =>
        (refine' ss_nextN ?s39 ?e39 ?r39); (case s39 => first | trivial | fail); (case e39 => first | ((with_reducible refine' Eq.trans (set_idxC ?jj39) ?jk39); (case jj39 => exact rfl); (case jk39 => dsimp only [List.set_cons_succ, List.set_cons_zero]; try exact rfl)) | ((with_reducible refine' Eq.trans (set_idx2 ?jl39 ?jm39) ?jn39); (case jl39 => exact rfl); (case jm39 => exact rfl); (case jn39 => dsimp only [List.set_cons_succ, List.set_cons_zero]; try exact rfl)) | (simp (config := { decide := true }) only [Loc.set, if_true, if_false]; exact rfl))
        exact ss_nil
      exact ss_nil
    case ex3 => exact rfl
    rw [List.append_assoc ((middle 0 es).take _), show [w.toUInt8] ++ (middle 0 es).drop (md (cell ns 16) (middle 0 es).length) = w.toUInt8 :: (middle 0 es).drop (md (cell ns 16) (middle 0 es).length) from rfl]
    have hl2 : ((middle 0 es).take (md (cell ns 16) (middle 0 es).length) ++ w.toUInt8 :: (middle 0 es).drop (md (cell ns 16) (middle 0 es).length)).length = (middle 0 es).length + 1 := by simp only [List.length_append, List.length_take, List.length_drop, List.length_cons]; (exact (linE [_, _, _, _] [.q 1 (.v 0) (.v 1), .q 1 (.a (.v 2) (.v 1)) (.v 3)] 1 (.a (.v 0) (.a (.v 2) (.n 1))) (.a (.v 3) (.n 1)) rfl rfl (Nat.min_eq_left (linL [_, _] [.s 1 (.v 0) (.v 1)] 1 (.v 0) (.v 1) rfl hp)) (Nat.sub_add_cancel (linL [_, _] [.s 1 (.v 0) (.v 1)] 1 (.v 0) (.v 1) rfl hp))))
    refine put1 M ns h19 h63 es _ none (t_add1 G hp) ?_ n
    rw [hl2]
    exact .no (add_mid G.fit G.g (by have := G.al; (exact (linL [_] [.l 1 (.v 0) (.n 8402)] 1 (.a (.v 0) (.n 1)) (.n 16777216) rfl this))) G.cl hp) (by simp only [List.length_append, hl2, endB_length]; (exact (linL [_, _] [.l 1 (.v 0) (.n 4196), .l 1 (.v 1) (.n 4184)] 1 (.a (.a (.v 0) (.a (.v 1) (.n 1))) (.n 22)) (.n 100000) rfl k1 k2)))
theorem dmg2 (M : D1 C) (ns : List Int) (h19 : 19 ≤ ns.length) (h63 : ns.length ≤ 63) (es : List Ent) (G : Good es) (hk : ∀ e ∈ es, Ok1 e) (h0 : (tailB es).length ≠ 0) (n : Nat) : Res ((ev C (n + 119)).ss (fnOf 34).scope ((fnOf 34).body.drop 24) [("script", .val (.list (ns.map .int))), ("one", q2), ("two", q3), ("three", q4), ("count", .val (.int (es.length : Nat))), ("entries", .val (.list (es.map entP))), ("handed", q7), ("bad", q8), ("front", .val (.bytes (front es))), ("middle", .val (.bytes (middle 0 es))), ("tail", .val (.bytes (tailB es))), ("whole", q12), ("refused", q13), ("got", q14), ("read_refused", q15), ("back", q16), ("list_refused", q17), ("listed", q18), ("plain", .val (.list (bytesP' (es.map (·.1))))), ("zone", .val (.int (2 : Nat))), ("part", .val (.bytes (tailB es))), ("place", q22), ("value", q23), ("kind", q24), ("due", q25), ("damaged", q26)]) (some (.bool true)) := by
  have M1 := M.toC1
  have M0 := M.toCm
  have f1 := M.after
  have f2 := M.steps
  have k1 := G.fl
  have k2 := G.ml
  have k3 : (tailB es).length = 22 := rfl
  have hn4 := G.n
  have hsm : ∀ e ∈ es, Sm e := fun e he => (hk e he).sm
  have hp : md (cell ns 16) (tailB es).length < (tailB es).length := md_lt _ (by (exact (linS [_] [.r 1 (.v 0) (.n 22)] 1 (.n 0) (.v 0) rfl k3)))
  have hx := item_b (get_getD hp) (by (exact (linL [_] [.q 1 (.v 0) (.n 22)] 1 (.v 0) (.n 16777216) rfl k3)))
  have hgx := get_getD hp
  have hst : ∃ s : Nat, itemP (.tuple (natsP stepsL)) (.int (md (cell ns 17) 6 : Nat)) = some (.int (s : Nat)) ∧ s % 256 ≠ 0 := by
    have m1 := md_lt (cell ns 17) (b := 6) (by decide)
    generalize md (cell ns 17) 6 = k at m1
    have : k = 0 ∨ k = 1 ∨ k = 2 ∨ k = 3 ∨ k = 4 ∨ k = 5 := by (exact (lt6 (linS [_] [.s 1 (.v 0) (.n 6)] 1 (.v 0) (.n 6) rfl m1)))
    rcases this with rfl | rfl | rfl | rfl | rfl | rfl
    all_goals exact ⟨_, item_nats (by decide) (by decide), by decide⟩
  obtain ⟨s, hst, hs0⟩ := hst
  generalize hxd : (tailB es).getD (md (cell ns 16) (tailB es).length) 0 = x at hx hgx
  have hx256 := x.toNat_lt
  generalize hw : (x.toNat + s) % 256 = w
  have hw256 : w < 256 := by (exact (linS [_, _] [.s 1 (.v 0) (.n 256), .r 1 (.v 0) (.v 1)] 1 (.v 1) (.n 256) rfl (Nat.mod_lt _ (by decide)) hw))
  have hwx : w.toUInt8 ≠ x := by
    intro q
    have := congrArg UInt8.toNat q
    simp at this
    exact step_ne hs0 hw this
  have hv : (tailB es)[md (cell ns 16) (tailB es).length]? ≠ some w.toUInt8 := by
    rw [hgx]; intro q; exact hwx (Option.some.inj q).symm
  (refine' res_step ?s40 ?e40 ?r40); (case s40 => first | trivial | fail); (case e40 => first | ((with_reducible refine' Eq.trans (set_idxC ?jj40) ?jk40); (case jj40 => exact rfl); (case jk40 => dsimp only [List.set_cons_succ, List.set_cons_zero]; try exact rfl)) | ((with_reducible refine' Eq.trans (set_idx2 ?jl40 ?jm40) ?jn40); (case jl40 => exact rfl); (case jm40 => exact rfl); (case jn40 => dsimp only [List.set_cons_succ, List.set_cons_zero]; try exact rfl)) | (simp (config := { decide := true }) only [Loc.set, if_true, if_false]; exact rfl))
  (refine' res_step ?s41 ?e41 ?r41); (case s41 => first | trivial | fail); (case e41 => first | ((with_reducible refine' Eq.trans (set_idxC ?jj41) ?jk41); (case jj41 => exact rfl); (case jk41 => dsimp only [List.set_cons_succ, List.set_cons_zero]; try exact rfl)) | ((with_reducible refine' Eq.trans (set_idx2 ?jl41 ?jm41) ?jn41); (case jl41 => exact rfl); (case jm41 => exact rfl); (case jn41 => dsimp only [List.set_cons_succ, List.set_cons_zero]; try exact rfl)) | (simp (config := { decide := true }) only [Loc.set, if_true, if_false]; exact rfl))
  rw [hw]
  (refine' res_step ?s42 ?e42 ?r42); (case s42 => first | trivial | fail); (case e42 => first | ((with_reducible refine' Eq.trans (set_idxC ?jj42) ?jk42); (case jj42 => exact rfl); (case jk42 => dsimp only [List.set_cons_succ, List.set_cons_zero]; try exact rfl)) | ((with_reducible refine' Eq.trans (set_idx2 ?jl42 ?jm42) ?jn42); (case jl42 => exact rfl); (case jm42 => exact rfl); (case jn42 => dsimp only [List.set_cons_succ, List.set_cons_zero]; try exact rfl)) | (simp (config := { decide := true }) only [Loc.set, if_true, if_false]; exact rfl))
  (refine' res_step ?s43 ?e43 ?r43); (case s43 => first | trivial | fail); (case e43 => first | ((with_reducible refine' Eq.trans (set_idxC ?jj43) ?jk43); (case jj43 => exact rfl); (case jk43 => dsimp only [List.set_cons_succ, List.set_cons_zero]; try exact rfl)) | ((with_reducible refine' Eq.trans (set_idx2 ?jl43 ?jm43) ?jn43); (case jl43 => exact rfl); (case jm43 => exact rfl); (case jn43 => dsimp only [List.set_cons_succ, List.set_cons_zero]; try exact rfl)) | (simp (config := { decide := true }) only [Loc.set, if_true, if_false]; exact rfl))
  have hkd := md_lt (cell ns 14) (b := 4) (by decide)
  generalize md (cell ns 14) 4 = k at hkd
  have hk3 : k < 2 ∨ k = 2 ∨ k = 3 := by (exact (Decidable.byContradiction fun z0 => ((Nat.lt_or_gt_of_ne (not_or.mp (not_or.mp z0).2).1).elim (fun y4 => (linF [_] [.l 1 (.n 2) (.v 0), .s 1 (.v 0) (.n 2)] rfl (Nat.le_of_not_lt (not_or.mp z0).1) y4)) (fun y4 => ((Nat.lt_or_gt_of_ne (not_or.mp (not_or.mp z0).2).2).elim (fun y3 => (linF [_] [.s 1 (.n 2) (.v 0), .s 1 (.v 0) (.n 3)] rfl y4 y3)) (fun y3 => (linF [_] [.s 1 (.v 0) (.n 4), .s 1 (.n 3) (.v 0)] rfl hkd y3)))))))
  rcases hk3 with hk3 | rfl | rfl
  · (refine' res_step (st_ifT ?ax1 ?bx1 ?cx1) ?ex1 ?rx1); (case ax1 => first | trivial | fail); (case bx1 => simpa using hk3)
    case cx1 =>
      (refine' ss_nextN ?s44 ?e44 ?r44); (case s44 => first | trivial | fail); (case e44 => first | ((with_reducible refine' Eq.trans (set_idxC ?jj44) ?jk44); (case jj44 => exact rfl); (case jk44 => dsimp only [List.set_cons_succ, List.set_cons_zero]; try exact rfl)) | ((with_reducible refine' Eq.trans (set_idx2 ?jl44 ?jm44) ?jn44); (case jl44 => exact rfl); (case jm44 => exact rfl); (case jn44 => dsimp only [List.set_cons_succ, List.set_cons_zero]; try exact rfl)) | (simp (config := { decide := true }) only [Loc.set, if_true, if_false]; exact rfl))
      (refine' ss_next (st_ifF ?a45 ?b45 ?c45) ?r45); (case a45 => first | trivial | fail); (case b45 => rfl); (case c45 => exact ss_nil)
      (refine' ss_next (st_ifF ?a46 ?b46 ?c46) ?r46); (case a46 => first | trivial | fail); (case b46 => rfl); (case c46 => exact ss_nil)
      exact ss_nil
    case ex1 => rw [set_at hp]
    exact put2 M ns h19 h63 es _ none (t_turn2 G hp hv) n
  · (refine' res_step (st_ifF ?ax2 ?bx2 ?cx2) ?ex2 ?rx2); (case ax2 => first | trivial | fail); (case bx2 => exact rfl)
    case cx2 =>
      (refine' ss_next (st_ifT ?ay2 ?by2 ?cy2) ?ry2); (case ay2 => first | trivial | fail); (case by2 => exact rfl)
      case cy2 =>
        (refine' ss_nextN ?s47 ?e47 ?r47); (case s47 => first | trivial | fail); (case e47 => first | ((with_reducible refine' Eq.trans (set_idxC ?jj47) ?jk47); (case jj47 => exact rfl); (case jk47 => dsimp only [List.set_cons_succ, List.set_cons_zero]; try exact rfl)) | ((with_reducible refine' Eq.trans (set_idx2 ?jl47 ?jm47) ?jn47); (case jl47 => exact rfl); (case jm47 => exact rfl); (case jn47 => dsimp only [List.set_cons_succ, List.set_cons_zero]; try exact rfl)) | (simp (config := { decide := true }) only [Loc.set, if_true, if_false]; exact rfl))
        exact ss_nil
      exact ss_nil
    case ex2 => exact rfl
    exact put2 M ns h19 h63 es _ none (t_lose2 G hp) n
  · (refine' res_step (st_ifF ?ax3 ?bx3 ?cx3) ?ex3 ?rx3); (case ax3 => first | trivial | fail); (case bx3 => exact rfl)
    case cx3 =>
      (refine' ss_next (st_ifF ?ay3 ?by3 ?cy3) ?ry3); (case ay3 => first | trivial | fail); (case by3 => exact rfl)
      case cy3 =>
        (refine' ss_nextN ?s48 ?e48 ?r48); (case s48 => first | trivial | fail); (case e48 => first | ((with_reducible refine' Eq.trans (set_idxC ?jj48) ?jk48); (case jj48 => exact rfl); (case jk48 => dsimp only [List.set_cons_succ, List.set_cons_zero]; try exact rfl)) | ((with_reducible refine' Eq.trans (set_idx2 ?jl48 ?jm48) ?jn48); (case jl48 => exact rfl); (case jm48 => exact rfl); (case jn48 => dsimp only [List.set_cons_succ, List.set_cons_zero]; try exact rfl)) | (simp (config := { decide := true }) only [Loc.set, if_true, if_false]; exact rfl))
        exact ss_nil
      exact ss_nil
    case ex3 => exact rfl
    rw [List.append_assoc ((tailB es).take _), show [w.toUInt8] ++ (tailB es).drop (md (cell ns 16) (tailB es).length) = w.toUInt8 :: (tailB es).drop (md (cell ns 16) (tailB es).length) from rfl]
    exact put2 M ns h19 h63 es _ none (t_add2 G hp) n
end
set_option maxHeartbeats 600000
theorem comp_names {C : Ctx} {n : Nat} {t e : Expr} {csc : Scope} (hs : freshLoc csc = [((".0" : Str), Slot.unb), (("entry" : Str), Slot.unb)]) (ht : ∀ v s, assignP t v [((".0" : Str), Slot.unb), (("entry" : Str), s)] = some [((".0" : Str), Slot.unb), (("entry" : Str), Slot.val v)]) (he : ∀ x : Ent, (ev C n).ex csc e [((".0" : Str), Slot.unb), (("entry" : Str), Slot.val (entP x))] = .ok (.bytes x.1, [((".0" : Str), Slot.unb), (("entry" : Str), Slot.val (entP x))])) (es : List Ent) : compL t ((ev C n).ex csc e) (es.map entP) (freshLoc csc) = .ok (bytesP' (es.map (·.1))) := by
  rw [hs, bytesP', List.map_map]
  exact comp_fold (fun (a : Slot) => [((".0" : Str), Slot.unb), (("entry" : Str), a)]) entP (fun e => .bytes e.1) (fun _ e => .val (entP e)) es .unb fun a e _ => ⟨_, ht _ _, he e⟩
theorem item_3 {a b c : Bs} {k : Nat} (h : k < 3) : itemP (.tuple [.bytes a, .bytes b, .bytes c]) (.int (k : Int)) = some (.bytes ([a, b, c].getD k [])) := by
  have : k = 0 ∨ k = 1 ∨ k = 2 := by (exact (lt3 (linS [_] [.s 1 (.v 0) (.n 3)] 1 (.v 0) (.n 3) rfl h)))
  rcases this with rfl | rfl | rfl <;> rfl
section
local macro_rules | `(tactic| decreasing_tactic) => `(tactic| first | ((with_reducible refine item_3 ?_); first | exact md_lt _ (by decide) | decide))
variable {C : Ctx} {q1 q2 q3 q4 q5 q6 q7 q8 q9 q10 q11 q12 q13 q14 q15 q16 q17 q18 q19 q20 q21 q22 q23 q24 q25 q26 : Slot}
theorem zone1 (M : D1 C) (ns : List Int) (h19 : 19 ≤ ns.length) (h63 : ns.length ≤ 63) (es : List Ent) (G : Good es) (hk : ∀ e ∈ es, Ok1 e) (n : Nat) : Res ((ev C (n + 119)).ss (fnOf 34).scope ((fnOf 34).body.drop 21) [("script", .val (.list (ns.map .int))), ("one", q2), ("two", q3), ("three", q4), ("count", .val (.int (es.length : Nat))), ("entries", .val (.list (es.map entP))), ("handed", q7), ("bad", q8), ("front", .val (.bytes (front es))), ("middle", .val (.bytes (middle 0 es))), ("tail", .val (.bytes (tailB es))), ("whole", q12), ("refused", q13), ("got", q14), ("read_refused", q15), ("back", q16), ("list_refused", q17), ("listed", q18), ("plain", .val (.list (bytesP' (es.map (·.1))))), ("zone", q20), ("part", q21), ("place", q22), ("value", q23), ("kind", q24), ("due", q25), ("damaged", q26)]) (some (.bool true)) := by
  have M1 := M.toC1
  have M0 := M.toCm
  have hz := md_lt (cell ns 15) (b := 3) (by decide)
  (refine' res_step ?s2 ?e2 ?r2); (case s2 => first | trivial | fail); (case e2 => first | ((with_reducible refine' Eq.trans (set_idxC ?jj2) ?jk2); (case jj2 => exact rfl); (case jk2 => dsimp only [List.set_cons_succ, List.set_cons_zero]; try exact rfl)) | ((with_reducible refine' Eq.trans (set_idx2 ?jl2 ?jm2) ?jn2); (case jl2 => exact rfl); (case jm2 => exact rfl); (case jn2 => dsimp only [List.set_cons_succ, List.set_cons_zero]; try exact rfl)) | (simp (config := { decide := true }) only [Loc.set, if_true, if_false]; exact rfl))
  (refine' res_step ?s3 ?e3 ?r3); (case s3 => first | trivial | fail); (case e3 => first | ((with_reducible refine' Eq.trans (set_idxC ?jj3) ?jk3); (case jj3 => exact rfl); (case jk3 => dsimp only [List.set_cons_succ, List.set_cons_zero]; try exact rfl)) | ((with_reducible refine' Eq.trans (set_idx2 ?jl3 ?jm3) ?jn3); (case jl3 => exact rfl); (case jm3 => exact rfl); (case jn3 => dsimp only [List.set_cons_succ, List.set_cons_zero]; try exact rfl)) | (simp (config := { decide := true }) only [Loc.set, if_true, if_false]; exact rfl))
  generalize md (cell ns 15) 3 = z at hz
  have hz3 : z = 0 ∨ z = 1 ∨ z = 2 := by (exact (lt3 (linS [_] [.s 1 (.v 0) (.n 3)] 1 (.v 0) (.n 3) rfl hz)))
  rcases hz3 with rfl | rfl | rfl
  · by_cases h0 : front es = []
    · (refine' res_step (st_ifT ?ax1 ?bx1 ?cx1) ?ex1 ?rx1); (case ax1 => first | trivial | fail); (case bx1 => simpa using h0)
      case cx1 =>
        (refine' ss_nextN ?s4 ?e4 ?r4); (case s4 => first | trivial | fail); (case e4 => first | ((with_reducible refine' Eq.trans (set_idxC ?jj4) ?jk4); (case jj4 => exact rfl); (case jk4 => dsimp only [List.set_cons_succ, List.set_cons_zero]; try exact rfl)) | ((with_reducible refine' Eq.trans (set_idx2 ?jl4 ?jm4) ?jn4); (case jl4 => exact rfl); (case jm4 => exact rfl); (case jn4 => dsimp only [List.set_cons_succ, List.set_cons_zero]; try exact rfl)) | (simp (config := { decide := true }) only [Loc.set, if_true, if_false]; exact rfl))
        (refine' ss_nextN ?s5 ?e5 ?r5); (case s5 => first | trivial | fail); (case e5 => first | ((with_reducible refine' Eq.trans (set_idxC ?jj5) ?jk5); (case jj5 => exact rfl); (case jk5 => dsimp only [List.set_cons_succ, List.set_cons_zero]; try exact rfl)) | ((with_reducible refine' Eq.trans (set_idx2 ?jl5 ?jm5) ?jn5); (case jl5 => exact rfl); (case jm5 => exact rfl); (case jn5 => dsimp only [List.set_cons_succ, List.set_cons_zero]; try exact rfl)) | (simp (config := { decide := true }) only [Loc.set, if_true, if_false]; exact rfl))
        exact ss_nil
      case ex1 => exact rfl
      exact dmg2 M ns h19 h63 es G hk (by show (22 : Nat) ≠ 0; decide) n
    · (refine' res_step (st_ifF ?a6 ?b6 ?c6) rfl ?r6); (case a6 => first | trivial | fail); (case b6 => simpa using h0); (case c6 => exact ss_nil)
      exact dmg0 M ns h19 h63 es G hk (fun q => h0 (List.eq_nil_of_length_eq_zero q)) n
  · by_cases h0 : middle 0 es = []
    · (refine' res_step (st_ifT ?ax2 ?bx2 ?cx2) ?ex2 ?rx2); (case ax2 => first | trivial | fail); (case bx2 => simpa using h0)
      case cx2 =>
        (refine' ss_nextN ?s7 ?e7 ?r7); (case s7 => first | trivial | fail); (case e7 => first | ((with_reducible refine' Eq.trans (set_idxC ?jj7) ?jk7); (case jj7 => exact rfl); (case jk7 => dsimp only [List.set_cons_succ, List.set_cons_zero]; try exact rfl)) | ((with_reducible refine' Eq.trans (set_idx2 ?jl7 ?jm7) ?jn7); (case jl7 => exact rfl); (case jm7 => exact rfl); (case jn7 => dsimp only [List.set_cons_succ, List.set_cons_zero]; try exact rfl)) | (simp (config := { decide := true }) only [Loc.set, if_true, if_false]; exact rfl))
        (refine' ss_nextN ?s8 ?e8 ?r8); (case s8 => first | trivial | fail); (case e8 => first | ((with_reducible refine' Eq.trans (set_idxC ?jj8) ?jk8); (case jj8 => exact rfl); (case jk8 => dsimp only [List.set_cons_succ, List.set_cons_zero]; try exact rfl)) | ((with_reducible refine' Eq.trans (set_idx2 ?jl8 ?jm8) ?jn8); (case jl8 => exact rfl); (case jm8 => exact rfl); (case jn8 => dsimp only [List.set_cons_succ, List.set_cons_zero]; try exact rfl)) | (simp (config := { decide := true }) only [Loc.set, if_true, if_false]; exact rfl))
        exact ss_nil
      case ex2 => exact rfl
      exact dmg2 M ns h19 h63 es G hk (by show (22 : Nat) ≠ 0; decide) n
    · (refine' res_step (st_ifF ?a9 ?b9 ?c9) rfl ?r9); (case a9 => first | trivial | fail); (case b9 => simpa using h0); (case c9 => exact ss_nil)
      exact dmg1 M ns h19 h63 es G hk (fun q => h0 (List.eq_nil_of_length_eq_zero q)) n
  · (refine' res_step (st_ifF ?a10 ?b10 ?c10) rfl ?r10); (case a10 => first | trivial | fail); (case b10 => rfl); (case c10 => exact ss_nil)
    exact dmg2 M ns h19 h63 es G hk (by show (22 : Nat) ≠ 0; decide) n
theorem Ok1.good {es : List Ent} (h : ∀ e ∈ es, Ok1 e) (hn : es.length ≤ 3) (hg : good es = true) : Good es :=
  ⟨by (exact (linL [_] [.l 1 (.v 0) (.n 3)] 1 (.v 0) (.n 4) rfl hn)), fun e he => ⟨(h e he).1, (h e he).2.1, no_pk fun x hx => ((h e he).2.2 x hx).1⟩, hg⟩
theorem law1_run (M : D1 C) (ns : List Int) (h63 : ns.length ≤ 63) (n : Nat) : (ev C (n + 120)).cl ("law" : Str) [.list (ns.map .int)] = .ok (.bool true) := by
  have M1 := M.toC1
  have M0 := M.toCm
  have hlen : (ns.map PV.int).length = ns.length := List.length_map ..
  have hlen2 : (ns.map PV.int).length ≤ 16777216 := by (exact (linL [_, _] [.l 1 (.v 0) (.n 63), .q 1 (.v 1) (.v 0)] 1 (.v 1) (.n 16777216) rfl h63 hlen))
  show _ = toC (some (.bool true))
  refine' cl_res (o := some (.bool true)) M.law (σ := [("script", .val (.list (ns.map .int))), ("one", .unb), ("two", .unb), ("three", .unb), ("count", .unb), ("entries", .unb), ("handed", .unb), ("bad", .unb), ("front", .unb), ("middle", .unb), ("tail", .unb), ("whole", .unb), ("refused", .unb), ("got", .unb), ("read_refused", .unb), ("back", .unb), ("list_refused", .unb), ("listed", .unb), ("plain", .unb), ("zone", .unb), ("part", .unb), ("place", .unb), ("value", .unb), ("kind", .unb), ("due", .unb), ("damaged", .unb)]) (by kernel_rfl) ?c rfl
  case c =>
  by_cases h19 : ns.length < 19
  · (refine' res_ret (st_ifT ?a11 ?b11 ?c11)); (case a11 => first | trivial | fail); (case b11 => rw [hlen]; simpa using h19); (case c11 => (refine' ss_retd ?s11); (case s11 => first | trivial | fail))
  have h19 : 19 ≤ ns.length := by (exact (linL [_] [.l 1 (.n 19) (.v 0)] 1 (.n 19) (.v 0) rfl (Nat.le_of_not_lt h19)))
  obtain ⟨e1, o1, r1⟩ := entry_run M (cell ns 1) (cell ns 2) (cell ns 3) (cell ns 4) (cell ns 13)
  obtain ⟨e2, o2, r2⟩ := entry_run M (cell ns 5) (cell ns 6) (cell ns 7) (cell ns 8) (cell ns 13)
  obtain ⟨e3, o3, r3⟩ := entry_run M (cell ns 9) (cell ns 10) (cell ns 11) (cell ns 12) (cell ns 13)
  have r1 := r1 (n + 97)
  have r2 := r2 (n + 97)
  have r3 := r3 (n + 97)
  have f1 := M.entry
  have f2 := M.counts
  have f3 := M.bad
  have f4 := M.local_
  have f5 := M.central
  have f6 := M.end_
  have f7 := M.lwrite
  have f8 := M.lread
  have f9 := M.llist
  have f10 := M.areN
  have f11 := M.areE
  have f12 := M.tbytes
  have hct : ∃ c : Nat, itemP (.tuple (natsP countsL)) (.int (md (cell ns 0) 6 : Nat)) = some (.int (c : Nat)) ∧ c ≤ 3 := by
    have m1 := md_lt (cell ns 0) (b := 6) (by decide)
    generalize md (cell ns 0) 6 = k at m1
    have : k = 0 ∨ k = 1 ∨ k = 2 ∨ k = 3 ∨ k = 4 ∨ k = 5 := by (exact (lt6 (linS [_] [.s 1 (.v 0) (.n 6)] 1 (.v 0) (.n 6) rfl m1)))
    rcases this with rfl | rfl | rfl | rfl | rfl | rfl
    all_goals exact ⟨_, item_nats (by decide) (by decide), by decide⟩
  obtain ⟨c, hct, hc3⟩ := hct
  obtain ⟨es, hes⟩ : ∃ es, [e1, e2, e3].take c = es := ⟨_, rfl⟩
  have hel : es.length = c := by rw [← hes, List.length_take]; simp; (exact (linE [_, _] [.q 1 (.v 0) (.v 1)] 1 (.v 0) (.v 1) rfl rfl (Nat.min_eq_left (linL [_] [.l 1 (.v 0) (.n 3)] 1 (.v 0) (.n 3) rfl hc3))))
  have hk : ∀ e ∈ es, Ok1 e := by
    intro e he
    rw [← hes] at he
    have he := List.mem_of_mem_take he
    simp only [List.mem_cons, List.not_mem_nil, or_false] at he
    rcases he with rfl | rfl | rfl
    · exact o1
    · exact o2
    · exact o3
  have hsm : ∀ e ∈ es, Sm e := fun e he => (hk e he).sm
  subst hel
  obtain ⟨hfit, hfl, hml⟩ := small_fit (es := es) ⟨by (exact (linL [_] [.l 1 (.v 0) (.n 3)] 1 (.v 0) (.n 100) rfl hc3)), hsm⟩
  have hal := arc_len es
  have b1 := bad_run M1 es (n + 97) (by (exact (linL [_] [.l 1 (.v 0) (.n 3)] 1 (.v 0) (.n 1000) rfl hc3)))
  have b2 := local_run M1 es (n + 77) hsm (by (exact (linL [_, _] [.l 1049 (.v 0) (.n 3), .l 1 (.v 1) (.m 1049 (.v 0))] 1 (.v 1) (.n 1000000) rfl hc3 hfl)))
  have b3 := central_run M1 es (n + 77) hsm (by (exact (linL [_, _] [.l 1046 (.v 0) (.n 3), .l 1 (.v 1) (.m 1046 (.v 0))] 1 (.v 1) (.n 1000000) rfl hc3 hml)))
  have harc : front es ++ middle 0 es ++ endB es.length (middle 0 es).length (front es).length = arc es := rfl
  have hmap : List.take es.length [entP e1, entP e2, entP e3] = es.map entP := by
    conv => rhs; rw [← hes]
    rw [List.map_take]; rfl
  (refine' res_step (st_ifF ?a12 ?b12 ?c12) rfl ?r12); (case a12 => first | trivial | fail); (case b12 => rw [hlen]; simp; (exact (linL [_] [.l 1 (.n 19) (.v 0)] 1 (.n 19) (.v 0) rfl h19))); (case c12 => exact ss_nil)
  (refine' res_step ?s13 ?e13 ?r13); (case s13 => first | trivial | fail); (case e13 => first | ((with_reducible refine' Eq.trans (set_idxC ?jj13) ?jk13); (case jj13 => exact rfl); (case jk13 => dsimp only [List.set_cons_succ, List.set_cons_zero]; try exact rfl)) | ((with_reducible refine' Eq.trans (set_idx2 ?jl13 ?jm13) ?jn13); (case jl13 => exact rfl); (case jm13 => exact rfl); (case jn13 => dsimp only [List.set_cons_succ, List.set_cons_zero]; try exact rfl)) | (simp (config := { decide := true }) only [Loc.set, if_true, if_false]; exact rfl))
  (refine' res_step ?s14 ?e14 ?r14); (case s14 => first | trivial | fail); (case e14 => first | ((with_reducible refine' Eq.trans (set_idxC ?jj14) ?jk14); (case jj14 => exact rfl); (case jk14 => dsimp only [List.set_cons_succ, List.set_cons_zero]; try exact rfl)) | ((with_reducible refine' Eq.trans (set_idx2 ?jl14 ?jm14) ?jn14); (case jl14 => exact rfl); (case jm14 => exact rfl); (case jn14 => dsimp only [List.set_cons_succ, List.set_cons_zero]; try exact rfl)) | (simp (config := { decide := true }) only [Loc.set, if_true, if_false]; exact rfl))
  (refine' res_step ?s15 ?e15 ?r15); (case s15 => first | trivial | fail); (case e15 => first | ((with_reducible refine' Eq.trans (set_idxC ?jj15) ?jk15); (case jj15 => exact rfl); (case jk15 => dsimp only [List.set_cons_succ, List.set_cons_zero]; try exact rfl)) | ((with_reducible refine' Eq.trans (set_idx2 ?jl15 ?jm15) ?jn15); (case jl15 => exact rfl); (case jm15 => exact rfl); (case jn15 => dsimp only [List.set_cons_succ, List.set_cons_zero]; try exact rfl)) | (simp (config := { decide := true }) only [Loc.set, if_true, if_false]; exact rfl))
  (refine' res_step ?s16 ?e16 ?r16); (case s16 => first | trivial | fail); (case e16 => first | ((with_reducible refine' Eq.trans (set_idxC ?jj16) ?jk16); (case jj16 => exact rfl); (case jk16 => dsimp only [List.set_cons_succ, List.set_cons_zero]; try exact rfl)) | ((with_reducible refine' Eq.trans (set_idx2 ?jl16 ?jm16) ?jn16); (case jl16 => exact rfl); (case jm16 => exact rfl); (case jn16 => dsimp only [List.set_cons_succ, List.set_cons_zero]; try exact rfl)) | (simp (config := { decide := true }) only [Loc.set, if_true, if_false]; exact rfl))
  (refine' res_step ?s17 ?e17 ?r17); (case s17 => first | trivial | fail); (case e17 => first | ((with_reducible refine' Eq.trans (set_idxC ?jj17) ?jk17); (case jj17 => exact rfl); (case jk17 => dsimp only [List.set_cons_succ, List.set_cons_zero]; try exact rfl)) | ((with_reducible refine' Eq.trans (set_idx2 ?jl17 ?jm17) ?jn17); (case jl17 => exact rfl); (case jm17 => exact rfl); (case jn17 => dsimp only [List.set_cons_succ, List.set_cons_zero]; try exact rfl)) | (simp (config := { decide := true }) only [Loc.set, if_true, if_false]; exact rfl))
  (refine' res_step ?s18 ?e18 ?r18); (case s18 => first | trivial | fail); (case e18 => first | ((with_reducible refine' Eq.trans (set_idxC ?jj18) ?jk18); (case jj18 => exact rfl); (case jk18 => dsimp only [List.set_cons_succ, List.set_cons_zero]; try exact rfl)) | ((with_reducible refine' Eq.trans (set_idx2 ?jl18 ?jm18) ?jn18); (case jl18 => exact rfl); (case jm18 => exact rfl); (case jn18 => dsimp only [List.set_cons_succ, List.set_cons_zero]; try exact rfl)) | (simp (config := { decide := true }) only [Loc.set, if_true, if_false]; exact rfl))
  rw [hmap]
  cases hg : good es with
  | false =>
    rw [hg] at b1
    have w1 := lwrite_bad M1 es (n + 47) hg hsm (by (exact (linL [_] [.l 1 (.v 0) (.n 3)] 1 (.v 0) (.n 1000) rfl hc3)))
    have w2 : readP (arc es) = none := read_none (bad_whole hfit (by (exact (linL [_, _, _, _] [.l 2095 (.v 0) (.n 3), .l 1 (.v 1) (.m 1049 (.v 0)), .l 1 (.v 2) (.m 1046 (.v 0)), .q 1 (.v 3) (.a (.a (.v 1) (.v 2)) (.n 22))] 1 (.v 3) (.n 16777216) rfl hc3 hfl hml hal))) hg)
    have w3 : tellN (dirP (arc es)) = none := by rw [bad_whole hfit (by (exact (linL [_, _, _, _] [.l 2095 (.v 0) (.n 3), .l 1 (.v 1) (.m 1049 (.v 0)), .l 1 (.v 2) (.m 1046 (.v 0)), .q 1 (.v 3) (.a (.a (.v 1) (.v 2)) (.n 22))] 1 (.v 3) (.n 16777216) rfl hc3 hfl hml hal))) hg]; rfl
    (refine' res_step ?s19 ?e19 ?r19); (case s19 => first | trivial | fail); (case e19 => first | ((with_reducible refine' Eq.trans (set_idxC ?jj19) ?jk19); (case jj19 => exact rfl); (case jk19 => dsimp only [List.set_cons_succ, List.set_cons_zero]; try exact rfl)) | ((with_reducible refine' Eq.trans (set_idx2 ?jl19 ?jm19) ?jn19); (case jl19 => exact rfl); (case jm19 => exact rfl); (case jn19 => dsimp only [List.set_cons_succ, List.set_cons_zero]; try exact rfl)) | (simp (config := { decide := true }) only [Loc.set, if_true, if_false]; exact rfl))
    (refine' res_step ?s20 ?e20 ?r20); (case s20 => first | trivial | fail); (case e20 => first | ((with_reducible refine' Eq.trans (set_idxC ?jj20) ?jk20); (case jj20 => exact rfl); (case jk20 => dsimp only [List.set_cons_succ, List.set_cons_zero]; try exact rfl)) | ((with_reducible refine' Eq.trans (set_idx2 ?jl20 ?jm20) ?jn20); (case jl20 => exact rfl); (case jm20 => exact rfl); (case jn20 => dsimp only [List.set_cons_succ, List.set_cons_zero]; try exact rfl)) | (simp (config := { decide := true }) only [Loc.set, if_true, if_false]; exact rfl))
    (refine' res_step ?s21 ?e21 ?r21); (case s21 => first | trivial | fail); (case e21 => first | ((with_reducible refine' Eq.trans (set_idxC ?jj21) ?jk21); (case jj21 => exact rfl); (case jk21 => dsimp only [List.set_cons_succ, List.set_cons_zero]; try exact rfl)) | ((with_reducible refine' Eq.trans (set_idx2 ?jl21 ?jm21) ?jn21); (case jl21 => exact rfl); (case jm21 => exact rfl); (case jn21 => dsimp only [List.set_cons_succ, List.set_cons_zero]; try exact rfl)) | (simp (config := { decide := true }) only [Loc.set, if_true, if_false]; exact rfl))
    (refine' res_step ?s22 ?e22 ?r22); (case s22 => first | trivial | fail); (case e22 => first | ((with_reducible refine' Eq.trans (set_idxC ?jj22) ?jk22); (case jj22 => exact rfl); (case jk22 => dsimp only [List.set_cons_succ, List.set_cons_zero]; try exact rfl)) | ((with_reducible refine' Eq.trans (set_idx2 ?jl22 ?jm22) ?jn22); (case jl22 => exact rfl); (case jm22 => exact rfl); (case jn22 => dsimp only [List.set_cons_succ, List.set_cons_zero]; try exact rfl)) | (simp (config := { decide := true }) only [Loc.set, if_true, if_false]; exact rfl))
    (refine' res_step ?s23 ?e23 ?r23); (case s23 => first | trivial | fail); (case e23 => first | ((with_reducible refine' Eq.trans (set_idxC ?jj23) ?jk23); (case jj23 => exact rfl); (case jk23 => dsimp only [List.set_cons_succ, List.set_cons_zero]; try exact rfl)) | ((with_reducible refine' Eq.trans (set_idx2 ?jl23 ?jm23) ?jn23); (case jl23 => exact rfl); (case jm23 => exact rfl); (case jn23 => dsimp only [List.set_cons_succ, List.set_cons_zero]; try exact rfl)) | (simp (config := { decide := true }) only [Loc.set, if_true, if_false]; exact rfl))
    rw [harc]
    (refine' res_step ?s24 ?e24 ?r24); (case s24 => first | trivial | fail); (case e24 => first | ((with_reducible refine' Eq.trans (set_idxC ?jj24) ?jk24); (case jj24 => exact rfl); (case jk24 => dsimp only [List.set_cons_succ, List.set_cons_zero]; try exact rfl)) | ((with_reducible refine' Eq.trans (set_idx2 ?jl24 ?jm24) ?jn24); (case jl24 => exact rfl); (case jm24 => exact rfl); (case jn24 => dsimp only [List.set_cons_succ, List.set_cons_zero]; try exact rfl)) | (simp (config := { decide := true }) only [Loc.set, if_true, if_false]; exact rfl))
    (refine' res_step (st_ifF ?a25 ?b25 ?c25) rfl ?r25); (case a25 => first | trivial | fail); (case b25 => simp); (case c25 => exact ss_nil)
    (refine' res_step ?s26 ?e26 ?r26); (case s26 => first | trivial | fail); (case e26 => first | ((with_reducible refine' Eq.trans (set_idxC ?jj26) ?jk26); (case jj26 => exact rfl); (case jk26 => dsimp only [List.set_cons_succ, List.set_cons_zero]; try exact rfl)) | ((with_reducible refine' Eq.trans (set_idx2 ?jl26 ?jm26) ?jn26); (case jl26 => exact rfl); (case jm26 => exact rfl); (case jn26 => dsimp only [List.set_cons_succ, List.set_cons_zero]; try exact rfl)) | (simp (config := { decide := true }) only [Loc.set, if_true, if_false]; exact rfl))
    (refine' res_step ?s27 ?e27 ?r27); (case s27 => first | trivial | fail); (case e27 => first | ((with_reducible refine' Eq.trans (set_idxC ?jj27) ?jk27); (case jj27 => exact rfl); (case jk27 => dsimp only [List.set_cons_succ, List.set_cons_zero]; try exact rfl)) | ((with_reducible refine' Eq.trans (set_idx2 ?jl27 ?jm27) ?jn27); (case jl27 => exact rfl); (case jm27 => exact rfl); (case jn27 => dsimp only [List.set_cons_succ, List.set_cons_zero]; try exact rfl)) | (simp (config := { decide := true }) only [Loc.set, if_true, if_false]; exact rfl))
    (refine' res_step (st_ifF ?a28 ?b28 ?c28) rfl ?r28); (case a28 => first | trivial | fail); (case b28 => rfl); (case c28 => exact ss_nil)
    (refine' res_ret (st_ifT ?a29 ?b29 ?c29)); (case a29 => first | trivial | fail); (case b29 => rfl); (case c29 => (refine' ss_retd ?s29); (case s29 => first | trivial | fail))
  | true =>
    rw [hg] at b1
    have G := Ok1.good hk hc3 hg
    have w1 := lwrite_good M1 es (n + 47) hg (by (exact (linL [_, _, _, _] [.l 2095 (.v 0) (.n 3), .l 1 (.v 1) (.m 1049 (.v 0)), .l 1 (.v 2) (.m 1046 (.v 0)), .q 1 (.v 3) (.a (.a (.v 1) (.v 2)) (.n 22))] 1 (.v 3) (.n 16000000) rfl hc3 hfl hml hal)))
    have w2 : readP (arc es) = some es := read_arc hfit hg (by (exact (linL [_, _, _, _] [.l 2095 (.v 0) (.n 3), .l 1 (.v 1) (.m 1049 (.v 0)), .l 1 (.v 2) (.m 1046 (.v 0)), .q 1 (.v 3) (.a (.a (.v 1) (.v 2)) (.n 22))] 1 (.v 3) (.n 16777216) rfl hc3 hfl hml hal)))
    have w3 : tellN (dirP (arc es)) = some (es.map (·.1)) := names_arc hfit hg (by (exact (linL [_, _, _, _] [.l 2095 (.v 0) (.n 3), .l 1 (.v 1) (.m 1049 (.v 0)), .l 1 (.v 2) (.m 1046 (.v 0)), .q 1 (.v 3) (.a (.a (.v 1) (.v 2)) (.n 22))] 1 (.v 3) (.n 16777216) rfl hc3 hfl hml hal)))
    (refine' res_step ?s30 ?e30 ?r30); (case s30 => first | trivial | fail); (case e30 => first | ((with_reducible refine' Eq.trans (set_idxC ?jj30) ?jk30); (case jj30 => exact rfl); (case jk30 => dsimp only [List.set_cons_succ, List.set_cons_zero]; try exact rfl)) | ((with_reducible refine' Eq.trans (set_idx2 ?jl30 ?jm30) ?jn30); (case jl30 => exact rfl); (case jm30 => exact rfl); (case jn30 => dsimp only [List.set_cons_succ, List.set_cons_zero]; try exact rfl)) | (simp (config := { decide := true }) only [Loc.set, if_true, if_false]; exact rfl))
    (refine' res_step ?s31 ?e31 ?r31); (case s31 => first | trivial | fail); (case e31 => first | ((with_reducible refine' Eq.trans (set_idxC ?jj31) ?jk31); (case jj31 => exact rfl); (case jk31 => dsimp only [List.set_cons_succ, List.set_cons_zero]; try exact rfl)) | ((with_reducible refine' Eq.trans (set_idx2 ?jl31 ?jm31) ?jn31); (case jl31 => exact rfl); (case jm31 => exact rfl); (case jn31 => dsimp only [List.set_cons_succ, List.set_cons_zero]; try exact rfl)) | (simp (config := { decide := true }) only [Loc.set, if_true, if_false]; exact rfl))
    (refine' res_step ?s32 ?e32 ?r32); (case s32 => first | trivial | fail); (case e32 => first | ((with_reducible refine' Eq.trans (set_idxC ?jj32) ?jk32); (case jj32 => exact rfl); (case jk32 => dsimp only [List.set_cons_succ, List.set_cons_zero]; try exact rfl)) | ((with_reducible refine' Eq.trans (set_idx2 ?jl32 ?jm32) ?jn32); (case jl32 => exact rfl); (case jm32 => exact rfl); (case jn32 => dsimp only [List.set_cons_succ, List.set_cons_zero]; try exact rfl)) | (simp (config := { decide := true }) only [Loc.set, if_true, if_false]; exact rfl))
    (refine' res_step ?s33 ?e33 ?r33); (case s33 => first | trivial | fail); (case e33 => first | ((with_reducible refine' Eq.trans (set_idxC ?jj33) ?jk33); (case jj33 => exact rfl); (case jk33 => dsimp only [List.set_cons_succ, List.set_cons_zero]; try exact rfl)) | ((with_reducible refine' Eq.trans (set_idx2 ?jl33 ?jm33) ?jn33); (case jl33 => exact rfl); (case jm33 => exact rfl); (case jn33 => dsimp only [List.set_cons_succ, List.set_cons_zero]; try exact rfl)) | (simp (config := { decide := true }) only [Loc.set, if_true, if_false]; exact rfl))
    (refine' res_step ?s34 ?e34 ?r34); (case s34 => first | trivial | fail); (case e34 => first | ((with_reducible refine' Eq.trans (set_idxC ?jj34) ?jk34); (case jj34 => exact rfl); (case jk34 => dsimp only [List.set_cons_succ, List.set_cons_zero]; try exact rfl)) | ((with_reducible refine' Eq.trans (set_idx2 ?jl34 ?jm34) ?jn34); (case jl34 => exact rfl); (case jm34 => exact rfl); (case jn34 => dsimp only [List.set_cons_succ, List.set_cons_zero]; try exact rfl)) | (simp (config := { decide := true }) only [Loc.set, if_true, if_false]; exact rfl))
    rw [harc]
    (refine' res_step ?s35 ?e35 ?r35); (case s35 => first | trivial | fail); (case e35 => first | ((with_reducible refine' Eq.trans (set_idxC ?jj35) ?jk35); (case jj35 => exact rfl); (case jk35 => dsimp only [List.set_cons_succ, List.set_cons_zero]; try exact rfl)) | ((with_reducible refine' Eq.trans (set_idx2 ?jl35 ?jm35) ?jn35); (case jl35 => exact rfl); (case jm35 => exact rfl); (case jn35 => dsimp only [List.set_cons_succ, List.set_cons_zero]; try exact rfl)) | (simp (config := { decide := true }) only [Loc.set, if_true, if_false]; exact rfl))
    (refine' res_step (st_ifF ?a36 ?b36 ?c36) rfl ?r36); (case a36 => first | trivial | fail); (case b36 => simp); (case c36 => exact ss_nil)
    (refine' res_step ?s37 ?e37 ?r37); (case s37 => first | trivial | fail); (case e37 => first | ((with_reducible refine' Eq.trans (set_idxC ?jj37) ?jk37); (case jj37 => exact rfl); (case jk37 => dsimp only [List.set_cons_succ, List.set_cons_zero]; try exact rfl)) | ((with_reducible refine' Eq.trans (set_idx2 ?jl37 ?jm37) ?jn37); (case jl37 => exact rfl); (case jm37 => exact rfl); (case jn37 => dsimp only [List.set_cons_succ, List.set_cons_zero]; try exact rfl)) | (simp (config := { decide := true }) only [Loc.set, if_true, if_false]; exact rfl))
    (refine' res_step ?s38 ?e38 ?r38); (case s38 => first | trivial | fail); (case e38 => first | ((with_reducible refine' Eq.trans (set_idxC ?jj38) ?jk38); (case jj38 => exact rfl); (case jk38 => dsimp only [List.set_cons_succ, List.set_cons_zero]; try exact rfl)) | ((with_reducible refine' Eq.trans (set_idx2 ?jl38 ?jm38) ?jn38); (case jl38 => exact rfl); (case jm38 => exact rfl); (case jn38 => dsimp only [List.set_cons_succ, List.set_cons_zero]; try exact rfl)) | (simp (config := { decide := true }) only [Loc.set, if_true, if_false]; exact rfl))
    (refine' res_step (st_ifF ?a39 ?b39 ?c39) rfl ?r39); (case a39 => first | trivial | fail); (case b39 => rfl); (case c39 => exact ss_nil)
    (refine' res_step (st_ifF ?a40 ?b40 ?c40) rfl ?r40); (case a40 => first | trivial | fail); (case b40 => rfl); (case c40 => exact ss_nil)
    (refine' res_step (st_ifF ?a41 ?b41 ?c41) rfl ?r41); (case a41 => first | trivial | fail); (case b41 => simp); (case c41 => exact ss_nil)
    (refine' res_step (st_set rfl (x_comp rfl rfl ?x1 ?x2 ?x3) ?x6) ?x4 ?x5); (case x1 => first | trivial | fail)
    case x2 =>
      (refine' comp_names ?y1 ?y2 ?y3 es); (case y1 => kernel_rfl); (case y2 => intro v s; exact rfl)
      case y3 =>
        intro e
        have i0 := ent_0 e
        first | trivial | fail
    case x3 => rw [bytesP_len, List.length_map]; show _ ≤ 16777216; (exact (linL [_] [.l 1 (.v 0) (.n 3)] 1 (.v 0) (.n 16777216) rfl hc3))
    case x6 => exact rfl
    case x4 => simp (config := { decide := true }) only [Loc.set, if_true, if_false]; exact rfl
    (refine' res_step (st_ifF ?a42 ?b42 ?c42) rfl ?r42); (case a42 => first | trivial | fail); (case b42 => rfl); (case c42 => exact ss_nil)
    exact zone1 M ns h19 h63 es G hk n
end
end Mine
set_option maxRecDepth 100000
set_option maxHeartbeats 1000000
set_option linter.unusedVariables false
namespace Mine
open PySem PyProof.Rows PySem.W
noncomputable def emptyArgs : Arguments → Bool
  | ⟨[], [], none, [], [], none, []⟩ => true
  | _ => false
theorem emptyArgs_eq {a : Arguments} (h : emptyArgs a = true) : a = ⟨[], [], none, [], [], none, []⟩ := by
  unfold emptyArgs at h
  split at h
  · rfl
  · cases h
noncomputable def okC (T : Tab) (st : Stmt) : Bool := match callOf st with
  | none => true
  | some f => !(f == Str.ofString "__debug__") && (match T.lookup f with
    | some (.fn a _ _) => emptyArgs a
    | _ => false)
noncomputable def okAll (p : Program) (tv : PV) : Tab → List Pos → List Stmt → Bool
  | _, _, [] => true
  | T, poss, st :: r => okB p poss st && okC T st && okAll p tv (addSt tv T st) (posOf st ++ poss) r
noncomputable def callFn (T : Tab) (st : Stmt) : List (Str × Fn) := match callOf st with
  | some f => (match T.lookup f with
    | some (.fn _ b sc) => [(f, ⟨[], sc, b⟩)]
    | _ => [])
  | none => []
noncomputable def callsOf (tv : PV) : Tab → List Stmt → List (Str × Fn)
  | _, [] => []
  | T, st :: r => callFn T st ++ callsOf tv (addSt tv T st) r
theorem topOk_of {p : Program} {tv : PV} : ∀ (body : List Stmt) (T : Tab) (poss : List Pos), okAll p tv T poss body = true → (∀ x ∈ callsOf tv T body, (ev (C0 x.1 x.2) 60).cl x.1 [] = .ok tv) → TopOk p tv T poss body
  | [], _, _, _, _ => trivial
  | st :: r, T, poss, h, hc => by
    simp only [okAll, Bool.and_eq_true] at h
    refine ⟨⟨h.1.1, fun f hf => ?_⟩, topOk_of r _ _ h.2 fun x hx => hc x (List.mem_append.mpr (.inr hx))⟩
    have h2 := h.1.2
    unfold okC at h2
    rw [hf] at h2
    simp only [Bool.and_eq_true, Bool.not_eq_true'] at h2
    cases hl : T.lookup f with
    | none => rw [hl] at h2; cases h2.2
    | some v =>
      rw [hl] at h2
      cases v with
      | val v => cases h2.2
      | fn a b sc =>
        have ha := emptyArgs_eq h2.2
        subst ha
        have hcf : callFn T st = [(f, ⟨[], sc, b⟩)] := by unfold callFn; rw [hf]; simp only [hl]
        exact ⟨b, sc, h2.1, rfl, hc (f, ⟨[], sc, b⟩) (by rw [callsOf, hcf]; simp)⟩
noncomputable def argsOf (i : Nat) : Arguments := match P.main.body[i]? with
  | some (.FunctionDef _ a _ _ _ _ _ _ _ _) => a
  | _ => ⟨[], [], none, [], [], none, []⟩
noncomputable abbrev tv : PV := .list (natsP tabN)
noncomputable abbrev TT : Tab := tabOf tv (behindTheImports P)
theorem p_open : opening P = plainProg P.main.scope.names := by kernel_rfl
theorem p_fence (s : Shared) : fenceModules? P s = some s := by kernel_rfl
theorem p_bare : P.bare := ⟨rfl, rfl, rfl, rfl, rfl, by decide +kernel⟩
theorem p_well : opensWell P = true := by decide +kernel
theorem p_anns : hasAnns (behindTheImports P) = false := by kernel_rfl
theorem p_doc : docOf (behindTheImports P) = none := by kernel_rfl
theorem p_ok : okAll P tv [] [] (behindTheImports P) = true := by decide +kernel
theorem p_calls : callsOf tv [] (behindTheImports P) = [(("_make_table" : Str), fnOf 1)] := by kernel_rfl
theorem p_top : TopOk P tv [] [] (behindTheImports P) := by
  refine topOk_of _ _ _ p_ok fun x hx => ?_
  rw [p_calls, List.mem_singleton] at hx
  subst hx
  exact table_run
theorem p_keys : (TT.all fun e => P.boundNames.contains e.1 && !laidNames.contains e.1) = true := by decide +kernel
theorem p_law : TT.lookup ("law" : Str) = some (.fn (argsOf 34) (fnOf 34).body (fnOf 34).scope) := by kernel_rfl
theorem p_def : P.theDef ("law" : Str) = some (argsOf 34, (fnOf 34).body, (fnOf 34).scope) := by kernel_rfl
theorem p_cm : Cm (ctxOf TT) where
  exc := rfl
  crc32 := by kernel_rfl
  u16 := by kernel_rfl
  u32 := by kernel_rfl
  get16 := by kernel_rfl
  get32 := by kernel_rfl
  mid := by kernel_rfl
  write := by kernel_rfl
  dir := by kernel_rfl
  names := by kernel_rfl
  read := by kernel_rfl
  len := by kernel_rfl
  bytes := by kernel_rfl
  type := by kernel_rfl
  table := by kernel_rfl
theorem p_d1 : D1 (ctxOf TT) where
  toCm := p_cm
  entry := by kernel_rfl
  le := by kernel_rfl
  lcrc := by kernel_rfl
  lhead := by kernel_rfl
  local_ := by kernel_rfl
  central := by kernel_rfl
  end_ := by kernel_rfl
  bad := by kernel_rfl
  after := by kernel_rfl
  lwrite := by kernel_rfl
  lread := by kernel_rfl
  llist := by kernel_rfl
  areN := by kernel_rfl
  areE := by kernel_rfl
  law := by kernel_rfl
  tlist := by kernel_rfl
  tbytes := by kernel_rfl
  ttuple := by kernel_rfl
  shapes := by kernel_rfl
  letters := by kernel_rfl
  counts := by kernel_rfl
  steps := by kernel_rfl
theorem p_run (ns : List Int) (h : ns.length ≤ 63) : (ev (ctxOf TT) 160).cl ("law" : Str) [.list (ns.map .int)] = .ok (.bool true) := law1_run p_d1 ns h 40
theorem p_said : OpenLaw.wellSaid PySem.Challenge.rw_sx_r045_1 = true := by
  unfold OpenLaw.wellSaid OpenRow.wellSaid OpenRow.partSaid looksOpen
  repeat' (with_reducible apply look_both)
  all_goals (try rw [PySem.W.Fast.te8326940854005059898])
  all_goals (try rw [PySem.W.Fast.te17119622794617984870])
  all_goals (try rw [PySem.W.Fast.te8377067652309620493])
  all_goals (try rw [PySem.W.Fast.te16286561074155671207])
  all_goals (try rw [PySem.W.Fast.te9558739934217749035])
  all_goals (try rw [PySem.W.Fast.te8179353310426384613])
  all_goals decide +kernel
end Mine
open PySem PySem.W PyProof.Rows
theorem PySem.Challenge.cw_sx_r045_1_holds : PySem.Challenge.rw_sx_r045_1.Holds := by
  refine holds_law Mine.p_said fun said => ?_
  exact Mine.head_row (l := PySem.Challenge.rw_sx_r045_1) (tv := Mine.tv) (by assumption) Mine.p_open Mine.p_fence Mine.p_bare Mine.p_well rfl Mine.p_anns Mine.p_doc Mine.p_top ⟨[.list []], by decide +kernel, by decide +kernel⟩ Mine.p_law Mine.p_def Mine.p_keys rfl rfl rfl Mine.p_run
