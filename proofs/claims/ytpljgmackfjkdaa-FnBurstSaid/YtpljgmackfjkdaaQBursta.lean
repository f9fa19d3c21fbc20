/-
  No statement is proved here: an abstract run of the program's code over plain data, and that it tells what the code does (part 1 of 4).
  No condition.
-/
import Derived.WalkKit
import Derived.Orders
import Derived.Laws.StructEq
namespace Go.Proofs.GR

section
variable {α : Type}
def lget : List α → Nat → α → α
  | [], _, d => d
  | a :: _, 0, _ => a
  | _ :: l, n + 1, d => lget l n d
def lset : List α → Nat → α → List α
  | [], _, _ => []
  | _ :: l, 0, x => x :: l
  | a :: l, n + 1, x => a :: lset l n x
def lapp : List α → List α → List α
  | [], m => m
  | a :: l, m => a :: lapp l m
def ltake : Nat → List α → List α
  | 0, _ => []
  | _ + 1, [] => []
  | n + 1, a :: l => a :: ltake n l
def ldrop : Nat → List α → List α
  | 0, l => l
  | _ + 1, [] => []
  | n + 1, _ :: l => ldrop n l
def llen : List α → Nat
  | [] => 0
  | _ :: l => Nat.succ (llen l)
def lat? : List α → Nat → Option α
  | [], _ => none
  | a :: _, 0 => some a
  | _ :: l, n + 1 => lat? l n
def lpad : Nat → α → List α → List α
  | 0, _, l => l
  | n + 1, d, [] => d :: lpad n d []
  | n + 1, d, a :: l => a :: lpad n d l
def lhas : List Nat → Nat → Bool
  | [], _ => false
  | a :: l, n => bif Nat.beq a n then true else lhas l n
def lidx : List Nat → Nat → Nat
  | [], _ => 0
  | a :: l, n => bif Nat.beq a n then 0 else Nat.succ (lidx l n)
def lnodup : List Nat → Bool
  | [] => true
  | a :: l => bif lhas l a then false else lnodup l
def yes2 (a b : Bool) : Bool := bif a then b else false
def lany (p : α → Bool) : List α → Bool
  | [] => false
  | a :: l => bif p a then true else lany p l
theorem lget_eq (l : List α) (n : Nat) (d : α) : lget l n d = l.getD n d := by
  induction l generalizing n with
  | nil => rfl
  | cons a l ih => cases n with
    | zero => rfl
    | succ n => simpa [lget] using ih n
theorem lset_eq (l : List α) (n : Nat) (x : α) : lset l n x = l.set n x := by
  induction l generalizing n with
  | nil => rfl
  | cons a l ih => cases n with
    | zero => rfl
    | succ n => simp [lset, ih n]
theorem lapp_eq (l m : List α) : lapp l m = l ++ m := by
  induction l with
  | nil => rfl
  | cons a l ih => simp [lapp, ih]
theorem ltake_eq (n : Nat) (l : List α) : ltake n l = l.take n := by
  induction l generalizing n with
  | nil => cases n <;> rfl
  | cons a l ih => cases n with
    | zero => rfl
    | succ n => simp [ltake, ih n]
theorem ldrop_eq (n : Nat) (l : List α) : ldrop n l = l.drop n := by
  induction l generalizing n with
  | nil => cases n <;> rfl
  | cons a l ih => cases n with
    | zero => rfl
    | succ n => simp [ldrop, ih n]
theorem llen_eq (l : List α) : llen l = l.length := by
  induction l with
  | nil => rfl
  | cons a l ih => simp [llen, ih]
theorem lat?_eq (l : List α) (n : Nat) : lat? l n = l[n]? := by
  induction l generalizing n with
  | nil => rfl
  | cons a l ih => cases n with
    | zero => rfl
    | succ n => simpa [lat?] using ih n
end

inductive Rose (α : Type) where
  | mk (a : α) (kids : List (Rose α))
namespace Rose
variable {α β : Type}
def a : Rose α → α
  | .mk x _ => x
def kids : Rose α → List (Rose α)
  | .mk _ k => k
theorem ind {Q : Rose α → Prop} (h : ∀ x k, (∀ r ∈ k, Q r) → Q (.mk x k)) : ∀ r, Q r
  | .mk x k => h x k fun r _ => ind h r
mutual
def fold (f : α → List β → β) : Rose α → β
  | .mk x k => f x (folds f k)
def folds (f : α → List β → β) : List (Rose α) → List β
  | [] => []
  | r :: l => fold f r :: folds f l
end
theorem folds_eq (f : α → List β → β) : ∀ l : List (Rose α), folds f l = l.map (fold f)
  | [] => by rw [folds]; rfl
  | r :: l => by rw [folds, folds_eq f l]; rfl
theorem fold_mk (f : α → List β → β) (x : α) (k : List (Rose α)) : fold f (.mk x k) = f x (k.map (fold f)) := by rw [fold, folds_eq]
end Rose

inductive Ty where
  | int (k : IntKind)
  | bool
  | str
  | slice (t : Ty)
  | unit
  | pair (a b : Ty)
  | rose (t : Ty)
  deriving DecidableEq

def Ty.den : Ty → Type
  | .int _ => Int
  | .bool => Bool
  | .str => ByteArray
  | .slice t => List t.den
  | .unit => Unit
  | .pair a b => a.den × b.den
  | .rose t => Rose t.den

def Ty.sz : Ty → Nat
  | .unit => 0
  | .pair a b => Nat.add a.sz b.sz
  | .rose t => Nat.add t.sz 1
  | _ => 1

def Ty.dflt : (t : Ty) → t.den
  | .int _ => (0 : Int)
  | .bool => false
  | .str => (⟨#[]⟩ : ByteArray)
  | .slice _ => []
  | .unit => ()
  | .pair a b => (a.dflt, b.dflt)
  | .rose t => Rose.mk t.dflt []

inductive Cell where
  | nix
  | dat (t : Ty) (x : t.den)
  | own (o : Nat)
  | win (o lo n : Nat)
  | ptr (o off : Nat)
  | eptr (o : Nat) (i : Nat) (off : Nat)
  | rptr (t : Ty) (x : t.den)
  | fnL (f : FuncId) (caps : List (Nat × Nat))
  | fn (f : FuncId) (caps : List (Sigma Ty.den))
  | nilS
  | nilP

inductive Val where
  | one (c : Cell)
  | agg (cs : List Cell)

inductive Slot where
  | nix
  | val (v : Val)
  | tup (vs : List Val)

inductive AObj where
  | dead
  | hole
  | box (t : TypeId) (cells : List Cell)
  | row (t : Ty) (xs : List t.den) (deep : Bool)
  /-- a deep row, the slice in whose element's cell stands as an object of its own -/
  | lent (t : Ty) (xs : List t.den) (i off m : Nat)

structure St where
  slots : List Slot
  objs : List AObj

inductive X0 where
  | dat (t : Ty) (x : t.den)
  | row (t : Ty) (xs : List t.den) (deep : Bool)
  | rptr (t : Ty) (x : t.den)
  | fn (f : FuncId) (caps : List (Sigma Ty.den))
  | nilP
  | nilS
inductive X where
  | c (x : X0)
  | box (t : TypeId) (cells : List X0)
structure XV where
  agg : Bool
  xs : List X

structure Res where
  vals : List XV
  upd : List X

inductive Mode where
  | ro | wr
  /-- handed over, and not handed back -/
  | tk
  /-- as one that is read; an own row is handed as nothing: it has to be empty -/
  | em
  deriving DecidableEq

structure Tab where
  fn : FuncId → Option Func
  und : TypeId → Option TypeDesc
  info : TypeId → Option (Value × Nat × Nat)
  ty : TypeId → Option Ty
  mode : FuncId → List Mode
  live : FuncId → Nat → List Tmp
  /-- of which results rows are handed over, nil ones too -/
  outs : FuncId → List Bool
  extb : FuncId → Bool
  /-- structs of plain fields that can be compared: their fields' types -/
  eqs : TypeId → Option (List Ty)
  /-- what is known of the blocks of some variables of packages -/
  gls : List (Nat × (Option Obj → Prop))

def Val.cells : Val → List Cell
  | .one c => [c]
  | .agg cs => cs

def Ty.flat : Ty → Bool
  | .slice _ => false
  | .rose _ => false
  | .pair a b => yes2 a.flat b.flat
  | _ => true

def Ty.cells : (t : Ty) → t.den → List Cell
  | .unit, _ => []
  | .pair a b, x => lapp (a.cells x.1) (b.cells x.2)
  | .rose t, r => lapp (t.cells (Rose.a r)) [.dat (.slice (.rose t)) (Rose.kids r)]
  | .int k, x => [.dat (.int k) x]
  | .bool, x => [.dat .bool x]
  | .str, x => [.dat .str x]
  | .slice t, x => [.dat (.slice t) x]

def packI (k : IntKind) : List Cell → Option (Int × List Cell)
  | .dat (.int k') n :: r => if k = k' then some (n, r) else none
  | _ => none
def packB : List Cell → Option (Bool × List Cell)
  | .dat .bool b :: r => some (b, r)
  | _ => none
def packS : List Cell → Option (ByteArray × List Cell)
  | .dat .str s :: r => some (s, r)
  | _ => none
def packL (t : Ty) : List Cell → Option (List t.den × List Cell)
  | .dat (.slice t') xs :: r => if h : t' = t then some (h ▸ xs, r) else none
  | .nilS :: r => some ([], r)
  | _ => none

def Ty.pack : (t : Ty) → List Cell → Option (t.den × List Cell)
  | .int k, r => packI k r
  | .bool, r => packB r
  | .str, r => packS r
  | .slice t, r => packL t r
  | .unit, r => some ((), r)
  | .pair a b, r =>
    match a.pack r with
    | some (x, r') => match b.pack r' with
      | some (y, r'') => some ((x, y), r'')
      | none => none
    | none => none
  | .rose t, r =>
    match t.pack r with
    | some (x, r') => match packL (.rose t) r' with
      | some (k, r'') => some (Rose.mk x k, r'')
      | none => none
    | none => none

def Ty.part : (t : Ty) → t.den → (off n : Nat) → Option (Sigma Ty.den)
  | .pair a b, x, off, n =>
    bif yes2 (Nat.beq off 0) (Nat.beq n (Nat.add a.sz b.sz)) then some ⟨.pair a b, x⟩
    else bif Nat.ble (Nat.add off n) a.sz then a.part x.1 off n
    else bif Nat.ble a.sz off then b.part x.2 (Nat.sub off a.sz) n
    else none
  | .rose t, x, off, n =>
    bif yes2 (Nat.beq off 0) (Nat.beq n (Nat.add t.sz 1)) then some ⟨.rose t, x⟩
    else bif Nat.ble (Nat.add off n) t.sz then t.part (Rose.a x) off n
    else bif yes2 (Nat.beq off t.sz) (Nat.beq n 1) then some ⟨.slice (.rose t), Rose.kids x⟩
    else none
  | t, x, off, n => bif yes2 (Nat.beq off 0) (Nat.beq n t.sz) then some ⟨t, x⟩ else none

def Ty.putAt : (t : Ty) → t.den → (off : Nat) → List Cell → Option t.den
  | .pair a b, x, off, cs =>
    bif yes2 (Nat.beq off 0) (Nat.beq (llen cs) (Nat.add a.sz b.sz)) then ((Ty.pair a b).pack cs).map (·.1)
    else bif Nat.ble (Nat.add off (llen cs)) a.sz then (a.putAt x.1 off cs).map fun y => (y, x.2)
    else bif Nat.ble a.sz off then (b.putAt x.2 (Nat.sub off a.sz) cs).map fun y => (x.1, y)
    else none
  | .rose t, x, off, cs =>
    bif yes2 (Nat.beq off 0) (Nat.beq (llen cs) (Nat.add t.sz 1)) then ((Ty.rose t).pack cs).map (·.1)
    else bif Nat.ble (Nat.add off (llen cs)) t.sz then (t.putAt (Rose.a x) off cs).map fun y => Rose.mk y (Rose.kids x)
    else bif yes2 (Nat.beq off t.sz) (Nat.beq (llen cs) 1) then (packL (.rose t) cs).map fun y => Rose.mk (Rose.a x) y.1
    else none
  | t, _, off, cs => bif yes2 (Nat.beq off 0) (Nat.beq (llen cs) t.sz) then (t.pack cs).map (·.1) else none

def rowUpd (t : Ty) (xs : List t.den) (i off : Nat) (cs : List Cell) : List t.den := match t.putAt (xs.getD i t.dflt) off cs with
  | some y => xs.set i y
  | none => xs
def rowPut (t : Ty) (xs : List t.den) (i off : Nat) (cs : List Cell) : List t.den :=
  bif yes2 (Nat.beq off 0) (Nat.beq (llen cs) t.sz) then (match t.pack cs with
    | some p => xs.set i p.1
    | none => xs) else rowUpd t xs i off cs
theorem putAt_whole : ∀ (t : Ty) (x : t.den) (off : Nat) (cs : List Cell), yes2 (Nat.beq off 0) (Nat.beq (llen cs) t.sz) = true → t.putAt x off cs = (t.pack cs).map (·.1)
  | .pair a b, x, off, cs, h => by
    have h' : yes2 (Nat.beq off 0) (Nat.beq (llen cs) (Nat.add a.sz b.sz)) = true := h; simp only [Ty.putAt, h', cond_true]
  | .rose t, x, off, cs, h => by
    have h' : yes2 (Nat.beq off 0) (Nat.beq (llen cs) (Nat.add t.sz 1)) = true := h; simp only [Ty.putAt, h', cond_true]
  | .int k, x, off, cs, h => by simp only [Ty.putAt, h, cond_true]
  | .bool, x, off, cs, h => by simp only [Ty.putAt, h, cond_true]
  | .str, x, off, cs, h => by simp only [Ty.putAt, h, cond_true]
  | .unit, x, off, cs, h => by simp only [Ty.putAt, h, cond_true]
  | .slice t, x, off, cs, h => by simp only [Ty.putAt, h, cond_true]
theorem rowPut_eq {t : Ty} {xs : List t.den} {i off : Nat} {cs : List Cell} {z : t.den} (h : t.putAt (xs.getD i t.dflt) off cs = some z) : rowPut t xs i off cs = xs.set i z := by
  unfold rowPut
  cases hc : yes2 (Nat.beq off 0) (Nat.beq (llen cs) t.sz) with
  | true =>
    rw [putAt_whole _ _ _ _ hc] at h; obtain ⟨p, hp, rfl⟩ := Option.map_eq_some_iff.1 h; rw [hp]; rfl
  | false =>
    rw [cond_false]; unfold rowUpd; rw [h]
theorem putAt_any : ∀ (t : Ty) (x y : t.den) (off : Nat) (cs : List Cell) (z : t.den), t.putAt x off cs = some z → ∃ z', t.putAt y off cs = some z'
  | .pair a b, x, y, off, cs, z, h => by
    simp only [Ty.putAt] at h ⊢; cases hc : yes2 (Nat.beq off 0) (Nat.beq (llen cs) (Nat.add a.sz b.sz)) <;> rw [hc] at h <;> simp only [cond_true, cond_false] at h ⊢
    · cases hd : Nat.ble (Nat.add off (llen cs)) a.sz <;> rw [hd] at h <;> simp only [cond_true, cond_false] at h ⊢
      · cases he : Nat.ble a.sz off <;> rw [he] at h <;> simp only [cond_true, cond_false] at h ⊢
        · cases h
        · obtain ⟨w, hw, _⟩ := Option.map_eq_some_iff.1 h
          obtain ⟨w', hw'⟩ := putAt_any b x.2 y.2 _ cs w hw; exact ⟨_, by rw [hw']; rfl⟩
      · obtain ⟨w, hw, _⟩ := Option.map_eq_some_iff.1 h
        obtain ⟨w', hw'⟩ := putAt_any a x.1 y.1 _ cs w hw; exact ⟨_, by rw [hw']; rfl⟩
    · exact ⟨z, h⟩
  | .rose t, x, y, off, cs, z, h => by
    simp only [Ty.putAt] at h ⊢; cases hc : yes2 (Nat.beq off 0) (Nat.beq (llen cs) (Nat.add t.sz 1)) <;> rw [hc] at h <;> simp only [cond_true, cond_false] at h ⊢
    · cases hd : Nat.ble (Nat.add off (llen cs)) t.sz <;> rw [hd] at h <;> simp only [cond_true, cond_false] at h ⊢
      · cases he : yes2 (Nat.beq off t.sz) (Nat.beq (llen cs) 1) <;> rw [he] at h <;> simp only [cond_true, cond_false] at h ⊢
        · cases h
        · obtain ⟨w, hw, _⟩ := Option.map_eq_some_iff.1 h
          exact ⟨_, by rw [hw]; rfl⟩
      · obtain ⟨w, hw, _⟩ := Option.map_eq_some_iff.1 h
        obtain ⟨w', hw'⟩ := putAt_any t (Rose.a x) (Rose.a y) _ cs w hw; exact ⟨_, by rw [hw']; rfl⟩
    · exact ⟨z, h⟩
  | .int k, x, y, off, cs, z, h => ⟨z, h⟩
  | .bool, x, y, off, cs, z, h => ⟨z, h⟩
  | .str, x, y, off, cs, z, h => ⟨z, h⟩
  | .unit, x, y, off, cs, z, h => ⟨z, h⟩
  | .slice t, x, y, off, cs, z, h => ⟨z, h⟩

def St.put (S : St) (d : Option Tmp) (s : Slot) : St :=
  match d with
  | some d => { S with slots := lset S.slots d s }
  | none => S
def St.obj (S : St) (o : Nat) : AObj := lget S.objs o .dead
def St.setObj (S : St) (o : Nat) (x : AObj) : St := { S with objs := lset S.objs o x }
def St.push (S : St) (x : AObj) : St := { S with objs := lapp S.objs [x] }
def St.kill (S : St) (o : Nat) : St := S.setObj o .dead

def ofConst : Value → Cell
  | .int k n => .dat (.int k) n
  | .bool b => .dat .bool b
  | .string s => .dat .str s
  | .slice none 0 0 => .nilS
  | .pointer none => .nilP
  | _ => .nix

def isFree (objs : List AObj) (i : Nat) : Bool := match lat? objs i with | none => true | some .hole => true | _ => false
def lsetp (objs : List AObj) (i : Nat) (x : AObj) : List AObj := lset (lpad (Nat.succ i) .hole objs) i x
def St.place (S : St) (i : Nat) (x : AObj) : St := { S with objs := lsetp S.objs i x }

def St.get (S : St) : Operand → Slot
  | .tmp t => lget S.slots t .nix
  | .const v => match ofConst v with
    | .nix => .nix
    | c => .val (.one c)
  | .func f => .val (.one (.fnL f []))
  | .global _ => .nix

def St.cell (S : St) (x : Operand) : Cell :=
  match S.get x with
  | .val (.one c) => c
  | _ => .nix

def St.val? (S : St) (x : Operand) : Option Val :=
  match S.get x with
  | .val v => some v
  | _ => none

def chk {ρ : Type} (b : Bool) (k : Option ρ) : Option ρ := match b with | true => k | false => none

def Tab.agg (Γ : Tab) (t : TypeId) : Option Bool := match Γ.und t with | some (.struct _) | some (.array _ _) => some true | some _ => some false | none => none
def Tab.size (Γ : Tab) (t : TypeId) : Option Nat := match Γ.info t with | some (_, n, _) => some n | none => none
def Tab.bytes (Γ : Tab) (t : TypeId) : Option Nat := match Γ.info t with | some (_, _, n) => some n | none => none
def Tab.ofCells (Γ : Tab) (t : TypeId) (cs : List Cell) : Option Val :=
  match Γ.agg t, cs with
  | some true, cs => some (.agg cs)
  | some false, [c] => some (.one c)
  | _, _ => none
def Tab.zero (Γ : Tab) (t : TypeId) : Option (List Cell) := match Γ.info t with | some (z, _, _) => some (z.cells.toList.map ofConst) | none => none
def sizeIs (n : Nat) (s : Option Nat) : Bool := match s with | some m => Nat.beq n m | none => false

def St.rowOf (S : St) : Cell → Option (Σ t : Ty, List t.den)
  | .dat (.slice t) xs => some ⟨t, xs⟩
  | .own o => match S.obj o with | .row t xs _ => some ⟨t, xs⟩ | _ => none
  | .win o lo n => match S.obj o with | .row t xs _ => some ⟨t, (xs.drop lo).take n⟩ | _ => none
  | _ => none

def St.hand (S : St) : List Cell → Option (List Cell × List Nat × Bool)
  | [] => some ([], [], true)
  | c :: r =>
    match S.hand r with
    | none => none
    | some (r', os, b) =>
      match c with
      | .own o => match S.obj o with
        | .row t xs d => some (.dat (.slice t) xs :: r', o :: os, yes2 d b)
        | _ => none
      | .dat (.slice t) xs => some (.dat (.slice t) xs :: r', os, false)
      | .dat (.int k) n => some (.dat (.int k) n :: r', os, b)
      | .dat .bool n => some (.dat .bool n :: r', os, b)
      | .dat .str n => some (.dat .str n :: r', os, b)
      | .nilS => some (.nilS :: r', os, b)
      | _ => none

def intBin (op : BinOp) (k : IntKind) (x y : Int) : Option (Bool × Cell) :=
  match op with
  | .add => some (true, .dat (.int k) (k.wrap (x + y)))
  | .sub => some (true, .dat (.int k) (k.wrap (x - y)))
  | .mul => some (true, .dat (.int k) (k.wrap (x * y)))
  | .quo => some (!(y == 0), .dat (.int k) (k.wrap (x.tdiv y)))
  | .rem => some (!(y == 0), .dat (.int k) (x.tmod y))
  | .and => some (true, .dat (.int k) (k.wrap (BitVec.ofInt k.bits x &&& BitVec.ofInt k.bits y).toNat))
  | .or => some (true, .dat (.int k) (k.wrap (BitVec.ofInt k.bits x ||| BitVec.ofInt k.bits y).toNat))
  | .xor => some (true, .dat (.int k) (k.wrap (BitVec.ofInt k.bits x ^^^ BitVec.ofInt k.bits y).toNat))
  | .andNot => some (true, .dat (.int k) (k.wrap (BitVec.ofInt k.bits x &&& ~~~(BitVec.ofInt k.bits y)).toNat))
  | .eql => some (true, .dat .bool (x == y))
  | .neq => some (true, .dat .bool (x != y))
  | .lss => some (true, .dat .bool (decide (x < y)))
  | .leq => some (true, .dat .bool (decide (x ≤ y)))
  | .gtr => some (true, .dat .bool (decide (x > y)))
  | .geq => some (true, .dat .bool (decide (x ≥ y)))
  | _ => none

def strBin (op : BinOp) (x y : ByteArray) : Option (Bool × Cell) :=
  match op with
  | .add => some (decide (x.size + y.size ≤ 9223372036854775807), .dat .str (x ++ y))
  | .eql => some (true, .dat .bool (x.toList == y.toList))
  | .neq => some (true, .dat .bool (!(x.toList == y.toList)))
  | .lss => some (true, .dat .bool (Op.bytesLess x.toList y.toList))
  | .leq => some (true, .dat .bool (Op.bytesLess x.toList y.toList || x.toList == y.toList))
  | .gtr => some (true, .dat .bool (!(Op.bytesLess x.toList y.toList || x.toList == y.toList)))
  | .geq => some (true, .dat .bool (!(Op.bytesLess x.toList y.toList)))
  | _ => none

def eqI (x y : Int) : Bool := x == y
def eqB (x y : Bool) : Bool := x == y
def eqS (x y : ByteArray) : Bool := x == y
def eqCells : List Cell → List Cell → Option Bool
  | [], [] => some true
  | .dat (.int k) x :: r, .dat (.int k') y :: s => if k = k' then (eqCells r s).map fun b => eqI x y && b else none
  | .dat .bool x :: r, .dat .bool y :: s => (eqCells r s).map fun b => eqB x y && b
  | .dat .str x :: r, .dat .str y :: s => (eqCells r s).map fun b => eqS x y && b
  | _, _ => none

def tyEq (a b : Ty) : Bool := if a = b then true else false
theorem tyEq_eq (a b : Ty) : tyEq a b = decide (a = b) := by unfold tyEq; by_cases h : a = b <;> simp [h]
def sameTys : List Cell → List Ty → Bool
  | [], [] => true
  | .dat t _ :: cs, u :: us => bif tyEq t u then sameTys cs us else false
  | _, _ => false
def eqStruct (Γ : Tab) (t : TypeId) (xs ys : List Cell) : Option Bool := match Γ.eqs t with
  | some ts => bif yes2 (sameTys xs ts) (sameTys ys ts) then eqCells xs ys else none
  | none => none

def shiftL (k : IntKind) (x y : Int) : Bool × Cell := (decide (0 ≤ y), .dat (.int k) (k.wrap (x * 2 ^ min y.toNat k.bits)))
def shiftR (k : IntKind) (x y : Int) : Bool × Cell := (decide (0 ≤ y), .dat (.int k) (x.fdiv (2 ^ min y.toNat k.bits)))

def binCell (Γ : Tab) (op : BinOp) (t : TypeId) (a b : Val) : Option (Bool × Cell) :=
  match op, a, b with
  | .shl, .one (.dat (.int k) x), .one (.dat (.int _) y) => some (shiftL k x y)
  | .shr, .one (.dat (.int k) x), .one (.dat (.int _) y) => some (shiftR k x y)
  | op, .one (.dat (.int k) x), .one (.dat (.int k') y) => if k = k' then intBin op k x y else none
  | op, .one (.dat .str x), .one (.dat .str y) => strBin op x y
  | .eql, .one (.dat .bool x), .one (.dat .bool y) => (match Γ.und t with | some .bool => some (true, .dat .bool (eqB x y)) | _ => none)
  | .neq, .one (.dat .bool x), .one (.dat .bool y) => (match Γ.und t with | some .bool => some (true, .dat .bool (!(eqB x y))) | _ => none)
  | .eql, .agg xs, .agg ys => (match eqStruct Γ t xs ys with | some b => some (true, .dat .bool b) | none => none)
  | .neq, .agg xs, .agg ys => (match eqStruct Γ t xs ys with | some b => some (true, .dat .bool (!b)) | none => none)
  | _, _, _ => none

def negC (k : IntKind) (n : Int) : Cell := .dat (.int k) (k.wrap (0 - n))
def complC (k : IntKind) (n : Int) : Cell := .dat (.int k) (k.wrap (BitVec.ofInt k.bits (if k.signed then -1 else k.max) ^^^ BitVec.ofInt k.bits n).toNat)
def notC (b : Bool) : Cell := .dat .bool (!b)
def unCell (op : UnOp) (a : Cell) : Option Cell :=
  match op, a with
  | .neg, .dat (.int k) n => some (negC k n)
  | .xor, .dat (.int k) n => some (complC k n)
  | .not, .dat .bool b => some (notC b)
  | _, _ => none

def bytesStr (xs : List Int) : ByteArray := ⟨(xs.map fun n => UInt8.ofNat n.toNat).toArray⟩
def strBytes (s : ByteArray) : List Int := s.data.toList.map fun b => (b.toNat : Int)

def fieldOf (Γ : Tab) (t : TypeId) (f : Nat) : Option Field :=
  match Γ.und t with
  | some (.struct fs) => lat? fs.toList f
  | _ => none

def St.loadCells (S : St) (a : Cell) (n : Nat) : Option (List Cell) :=
  match a with
  | .ptr o off => match S.obj o with
    | .box _ cs => bif Nat.ble (Nat.add off n) (llen cs) then some (ltake n (ldrop off cs)) else none
    | _ => none
  | .eptr o i off => match S.obj o with
    | .row t xs d => match t.part (xs.getD i t.dflt) off n with
      | some ⟨t', x⟩ => bif (bif d then t'.flat else true) then some (t'.cells x) else none
      | none => none
    | _ => none
  | .rptr t x => bif Nat.beq t.sz n then some (t.cells x) else none
  | _ => none

def Cell.thaw (o : Nat) (t : Ty) (xs : List t.den) : Cell → Cell
  | .own o' => bif Nat.beq o o' then .dat (.slice t) xs else .own o'
  | .win o' lo n => bif Nat.beq o o' then .dat (.slice t) ((xs.drop lo).take n) else .win o' lo n
  | c => c
def Val.mapC (g : Cell → Cell) : Val → Val
  | .one c => .one (g c)
  | .agg cs => .agg (cs.map g)
def Slot.mapC (g : Cell → Cell) : Slot → Slot
  | .nix => .nix
  | .val v => .val (v.mapC g)
  | .tup vs => .tup (vs.map (·.mapC g))
def AObj.mapC (g : Cell → Cell) : AObj → AObj
  | .box t cs => .box t (cs.map g)
  | x => x
def St.freeze (S : St) (o : Nat) : St :=
  match S.obj o with
  | .row t xs _ => St.kill { slots := S.slots.map (·.mapC (Cell.thaw o t xs)), objs := S.objs.map (·.mapC (Cell.thaw o t xs)) } o
  | _ => S

def St.lend (S : St) : Cell → Option (X0 × List Nat)
  | .dat t x => some (.dat t x, [])
  | .own o => match S.obj o with | .row t xs _ => some (.dat (.slice t) xs, [o]) | _ => none
  | .win o lo n => match S.obj o with | .row t xs _ => some (.dat (.slice t) ((xs.drop lo).take n), [o]) | _ => none
  | .rptr t x => some (.rptr t x, [])
  | .fn f caps => some (.fn f caps, [])
  | .nilP => some (.nilP, [])
  | .nilS => some (.nilS, [])
  | _ => none
def lendAll (g : Cell → Option (X0 × List Nat)) : List Cell → Option (List X0 × List Nat)
  | [] => some ([], [])
  | c :: r => match g c, lendAll g r with
    | some (x, os), some (xs, os') => some (x :: xs, lapp os os')
    | _, _ => none
def St.boxData (S : St) (Γ : Tab) (o : Nat) : Option (Sigma Ty.den × List Nat) :=
  match S.obj o with
  | .box t cs => match Γ.ty t, S.hand cs with
    | some τ, some (cs', os, _) => match τ.pack cs' with
      | some (x, []) => some (⟨τ, x⟩, os)
      | _ => none
    | _, _ => none
  | _ => none
def St.give (S : St) : Cell → Option (X0 × List Nat)
  | .dat t x => some (.dat t x, [])
  | .own o => match S.obj o with | .row t xs d => some (.row t xs d, [o]) | _ => none
  | .rptr t x => some (.rptr t x, [])
  | .fn f caps => some (.fn f caps, [])
  | .nilP => some (.nilP, [])
  | .nilS => some (.nilS, [])
  | _ => none
def capsData (S : St) (Γ : Tab) : List (Nat × Nat) → Option (List (Sigma Ty.den) × List Nat)
  | [] => some ([], [])
  | (o, 0) :: r => match S.boxData Γ o, capsData S Γ r with
    | some (x, os), some (xs, os') => some (x :: xs, lapp (o :: os) os')
    | _, _ => none
  | _ => none

def Ty.leaves : Ty → List Ty
  | .pair a b => lapp a.leaves b.leaves
  | .rose t => lapp t.leaves [.slice (.rose t)]
  | .unit => []
  | t => [t]
def fixCells : List Ty → List Cell → List Cell
  | t :: ts, c :: cs => (match t, c with
    | .slice τ, .nilS => .dat (.slice τ) []
    | _, c => c) :: fixCells ts cs
  | _, cs => cs
def fixVal (Γ : Tab) (t : TypeId) (v : Val) : Val :=
  match Γ.ty t, v with
  | some τ, .one c => (match fixCells τ.leaves [c] with
    | [c'] => .one c'
    | _ => .one c)
  | some τ, .agg cs => .agg (fixCells τ.leaves cs)
  | none, v => v
def fixVals (Γ : Tab) : List TypeId → List Val → List Val
  | t :: ts, v :: vs => fixVal Γ t v :: fixVals Γ ts vs
  | _, vs => vs
def keepNil (m : Mode) (v : Val) : Bool := match m, v with
  | .tk, .one .nilS => true
  | _, _ => false
def fixArg (Γ : Tab) (m : Mode) (t : TypeId) (v : Val) : Val := match keepNil m v with
  | true => v
  | false => fixVal Γ t v
def fixArgs (Γ : Tab) : List Mode → List TypeId → List Val → List Val
  | ms, t :: ts, v :: vs => fixArg Γ (ms.headD .ro) t v :: fixArgs Γ ms.tail ts vs
  | _, _, vs => vs

def ownCells (n : Nat) : List Ty → List Cell → List Cell × List AObj
  | t :: ts, c :: cs => match t, c with
    | .slice τ, .nilS => (match ownCells (Nat.succ n) ts cs with | (r, p) => (.own n :: r, .row τ [] true :: p))
    | _, c => (match ownCells n ts cs with | (r, p) => (c :: r, p))
  | _, cs => (cs, [])
def tyLeaves (Γ : Tab) (t : TypeId) : List Ty := match Γ.ty t with | some τ => τ.leaves | none => []
def St.ownRes (S : St) (Γ : Tab) (r : ResultVar) (t : TypeId) : St :=
  match r with
  | .tmp x => match lget S.slots x .nix with
    | .val (.one c) => (match ownCells (llen S.objs) (tyLeaves Γ t) [c] with | ([c'], p) => { slots := lset S.slots x (.val (.one c')), objs := lapp S.objs p } | _ => S)
    | .val (.agg cs) => (match ownCells (llen S.objs) (tyLeaves Γ t) cs with | (cs', p) => { slots := lset S.slots x (.val (.agg cs')), objs := lapp S.objs p })
    | _ => S
  | .cell a _ => match S.cell (.tmp a) with
    | .ptr o _ => match S.obj o with
      | .box bt cs => (match ownCells (llen S.objs) (tyLeaves Γ t) cs with | (cs', p) => { slots := S.slots, objs := lset (lapp S.objs p) o (.box bt cs') })
      | _ => S
    | _ => S
def ownIds : List Cell → List Nat
  | [] => []
  | .own o :: r => o :: ownIds r
  | .win o _ _ :: r => o :: ownIds r
  | _ :: r => ownIds r
def St.datRes (S : St) (r : ResultVar) : St :=
  match r with
  | .tmp x => match lget S.slots x .nix with
    | .val v => (ownIds v.cells).foldl St.freeze S
    | _ => S
  | .cell a _ => match S.cell (.tmp a) with
    | .ptr o _ => match S.obj o with
      | .box _ cs => (ownIds cs).foldl St.freeze S
      | _ => S
    | _ => S
def St.prep (S : St) (Γ : Tab) (outs : List Bool) (i : Nat) : List ResultVar → List TypeId → St
  | r :: rs, t :: ts => bif lget outs i false then (S.ownRes Γ r t).prep Γ outs (Nat.succ i) rs ts else (S.datRes r).prep Γ outs (Nat.succ i) rs ts
  | _, _ => S

def St.arg (S : St) (Γ : Tab) (m : Mode) (v : Val) : Option (XV × List Nat × List Nat × List Nat) :=
  match m, v with
  | .ro, .agg cs => match lendAll S.lend cs with | some (xs, os) => some (⟨true, xs.map .c⟩, os, [], []) | none => none
  | .ro, .one (.ptr o 0) => match S.boxData Γ o with | some (⟨τ, x⟩, os) => some (⟨false, [.c (.rptr τ x)]⟩, o :: os, [], []) | none => none
  | .ro, .one (.fnL f caps) => match capsData S Γ caps with | some (xs, os) => some (⟨false, [.c (.fn f xs)]⟩, os, [], []) | none => none
  | .ro, .one c => match S.lend c with | some (x, os) => some (⟨false, [.c x]⟩, os, [], []) | none => none
  | .wr, .one (.own o) => match S.obj o with | .row τ xs d => some (⟨false, [.c (.row τ xs d)]⟩, [], [o], [o]) | _ => none
  | .wr, .one (.ptr o 0) => match S.obj o with
    | .box τ cs => match lendAll S.give cs with | some (xs, os) => some (⟨false, [.box τ xs]⟩, [], [o], lapp os [o]) | none => none
    | _ => none
  | .wr, .agg cs => match lendAll S.give cs with | some (xs, os) => some (⟨true, xs.map .c⟩, [], os, os) | none => none
  | .tk, .one (.own o) => match S.obj o with | .row τ xs d => some (⟨false, [.c (.row τ xs d)]⟩, [], [], [o]) | _ => none
  | .tk, .one c => match S.lend c with | some (x, os) => some (⟨false, [.c x]⟩, os, [], []) | none => none
  | .tk, .agg cs => match lendAll S.lend cs with | some (xs, os) => some (⟨true, xs.map .c⟩, os, [], []) | none => none
  | .em, .one (.own o) => match S.obj o with | .row τ [] _ => some (⟨false, [.c (.dat (.slice τ) [])]⟩, [], [], []) | _ => none
  | .em, .one c => match S.lend c with | some (x, os) => some (⟨false, [.c x]⟩, os, [], []) | none => none
  | _, _ => none
def St.args (S : St) (Γ : Tab) : List Mode → List Val → Option (List XV × List Nat × List Nat × List Nat)
  | _, [] => some ([], [], [], [])
  | ms, v :: vs => match S.arg Γ (ms.headD .ro) v, S.args Γ ms.tail vs with
    | some (x, l, m, g), some (xs, l', m', g') => some (x :: xs, lapp l l', lapp m m', lapp g g')
    | _, _ => none

def elemSize (Γ : Tab) (t : TypeId) : Option Nat :=
  match Γ.und t with
  | some (.slice e) => Γ.size e
  | _ => none
def take0 (n : Nat) : X0 → Cell × List AObj
  | .dat t x => (.dat t x, [])
  | .row t xs d => (.own n, [.row t xs d])
  | .rptr t x => (.rptr t x, [])
  | .fn f caps => (.fn f caps, [])
  | .nilP => (.nilP, [])
  | .nilS => (.nilS, [])
def takeAll (n : Nat) : List X0 → List Cell × List AObj
  | [] => ([], [])
  | x :: r => match take0 n x with
    | (c, p) => match takeAll (Nat.add n (llen p)) r with
      | (cs, q) => (c :: cs, lapp p q)
def takeX (n : Nat) : X → Cell × List AObj
  | .c x => take0 n x
  | .box t xs => match takeAll n xs with
    | (cs, p) => (.ptr (Nat.add n (llen p)) 0, lapp p [.box t cs])
def takeXs (n : Nat) : List X → List Cell × List AObj
  | [] => ([], [])
  | x :: r => match takeX n x with
    | (c, p) => match takeXs (Nat.add n (llen p)) r with
      | (cs, q) => (c :: cs, lapp p q)
def takeV (n : Nat) (v : XV) : Option (Val × List AObj) :=
  match v.agg, takeXs n v.xs with
  | true, (cs, p) => some (.agg cs, p)
  | false, ([c], p) => some (.one c, p)
  | false, _ => none
def takeVs (n : Nat) : List XV → Option (List Val × List AObj)
  | [] => some ([], [])
  | v :: r => match takeV n v with
    | some (x, p) => match takeVs (Nat.add n (llen p)) r with
      | some (xs, q) => some (x :: xs, lapp p q)
      | none => none
    | none => none

def updX (n : Nat) : List Nat → List X → Option (List (Nat × AObj) × List AObj)
  | [], [] => some ([], [])
  | o :: os, x :: r =>
    match x with
    | .c (.row t xs d) => match updX n os r with
      | some (u, p) => some ((o, .row t xs d) :: u, p)
      | none => none
    | .box t xs => match takeAll n xs with
      | (cs, p) => match updX (Nat.add n (llen p)) os r with
        | some (u, q) => some ((o, .box t cs) :: u, lapp p q)
        | none => none
    | _ => none
  | _, _ => none
def sameKind (x y : AObj) : Bool := match x, y with
  | .row t _ _, .row t' _ _ => tyEq t t'
  | .box t _, .box t' _ => Nat.beq t t'
  | _, _ => false
def sameKinds (S : St) : List (Nat × AObj) → Bool
  | [] => true
  | (o, x) :: r => bif sameKind (S.obj o) x then sameKinds S r else false

def X0.shares : X0 → Bool
  | .dat t _ => bif t.flat then false else true
  | .row t _ d => bif d then false else bif t.flat then false else true
  | .rptr _ _ => true
  | .fn _ _ => true
  | .nilP => false
  | .nilS => false
def X.shares : X → Bool
  | .c x => x.shares
  | .box _ xs => lany X0.shares xs
def Res.shares (r : Res) : Bool := bif lany (fun v => lany X.shares v.xs) r.vals then true else lany X.shares r.upd

def slotOf : List Val → Slot
  | [v] => .val v
  | vs => .tup vs

abbrev Orc := FuncId → List XV → (ρ : Type) → (Res → Option ρ) → Option ρ

def lmeet : List Nat → List Nat → Bool
  | [], _ => false
  | a :: l, m => bif lhas m a then true else lmeet l m

def Cell.ids : Cell → List Nat
  | .own o | .win o _ _ | .ptr o _ | .eptr o _ _ => [o]
  | .fnL _ caps => caps.map (·.1)
  | _ => []
def Slot.ids : Slot → List Nat
  | .nix => []
  | .val v => v.cells.flatMap Cell.ids
  | .tup vs => vs.flatMap fun v => v.cells.flatMap Cell.ids
def AObj.ids : AObj → List Nat
  | .box _ cs => cs.flatMap Cell.ids
  | _ => []
def addIds : List Nat → List Nat → List Nat
  | acc, [] => acc
  | acc, i :: r => bif lhas acc i then addIds acc r else addIds (lapp acc [i]) r
def optL {α : Type} (x : Option α) (r : List α) : List α := match x with | some a => a :: r | none => r
def opnds : Op → List Operand
  | .slice _ x l h m => x :: optL l (optL h (optL m []))
  | .makeFunc _ first captured => lapp first.toList captured.toList
  | .call c => lapp (match c.callee with | .value f => [f] | .invoke r _ => [r] | .builtin _ => []) c.args.toList
  | op => op.operands.toList
theorem opnds_eq (op : Op) : opnds op = op.operands.toList := by
  cases op with
  | slice t x l h m => cases l <;> cases h <;> cases m <;> simp [opnds, optL, Op.operands]
  | makeFunc f a b => simp [opnds, Op.operands, lapp_eq]
  | call c =>
    cases hc : c.callee <;> simp [opnds, Op.operands, Call.operands, lapp_eq, hc]
  | _ => rfl
def opIds (S : St) (o : Oper) : List Nat :=
  let l0 := (opnds o.op).foldl (fun acc x => addIds acc (S.get x).ids) []
  l0.foldl (fun acc i => addIds acc (S.obj i).ids) l0
def rangeFrom (n : Nat) : Nat → List Nat
  | 0 => []
  | k + 1 => n :: rangeFrom (Nat.succ n) k

structure Eff where
  slot : Slot
  kills : List Nat
  sets : List (Nat × AObj)
  pushes : List AObj
  frz : List Nat
def Eff.pure (s : Slot) : Eff := ⟨s, [], [], [], []⟩
def St.pushAll (S : St) (ps : List AObj) : St := match ps with | [] => S | ps => { S with objs := lapp S.objs ps }
def St.apply (S : St) (d : Option Tmp) (e : Eff) : St :=
  ((e.sets.foldl (fun S p => S.place p.1 p.2) (e.kills.foldl St.kill (e.frz.foldl St.freeze S))).pushAll e.pushes).put d e.slot

def Eff.touch (n : Nat) (e : Eff) : List Nat := lapp e.kills (lapp (e.sets.map (·.1)) (rangeFrom n (llen e.pushes)))
def allBelow (n : Nat) : List Nat → Bool
  | [] => true
  | a :: l => bif Nat.blt a n then allBelow n l else false

def minusIds : List Nat → List Nat → List Nat
  | [], _ => []
  | a :: l, m => bif lhas m a then minusIds l m else a :: minusIds l m

def hasBody (Γ : Tab) (f : FuncId) : Bool := match Γ.fn f with | some fn => (match fn.body with | some _ => true | none => false) | none => Γ.extb f
def allRows (S : St) : List Nat → Bool
  | [] => true
  | o :: r => match S.obj o with | .row _ _ _ => allRows S r | _ => false

def acallOp {ρ : Type} (Γ : Tab) (C : Orc) (f : FuncId) (ts : List TypeId) (vs : List Val) (S : St) (k : Eff → Option ρ) : Option ρ :=
  match S.args Γ (Γ.mode f) (fixArgs Γ (Γ.mode f) ts vs) with
  | none => none
  | some (xs, lent, muts, gone) =>
    bif yes2 (hasBody Γ f) (yes2 (yes2 (lnodup gone) (lnodup muts)) (bif lmeet lent gone then false else true)) then
    C f xs ρ fun r =>
      match updX (llen S.objs) muts r.upd with
      | none => none
      | some (u, p) =>
        match takeVs (Nat.add (llen S.objs) (llen p)) r.vals with
        | none => none
        | some (ws, q) => bif yes2 (sameKinds S u) (bif r.shares then allRows S lent else true) then k ⟨slotOf ws, minusIds gone muts, u, lapp p q, bif r.shares then lent else []⟩ else none
    else none

def cellI (c : Cell) : Option Int := match c with | .dat (.int _) n => some n | _ => none

def bounds (S : St) (lo hi : Option Operand) (len : Nat) : Option (Bool × Nat × Nat) :=
  match lo, hi with
  | none, none => some (true, 0, len)
  | some l, none => match cellI (S.cell l) with | some a => some (decide (0 ≤ a) && decide (a ≤ len), a.toNat, len) | none => none
  | none, some h => match cellI (S.cell h) with | some b => some (decide (0 ≤ b) && decide (b ≤ len), 0, b.toNat) | none => none
  | some l, some h => match cellI (S.cell l), cellI (S.cell h) with
    | some a, some b => some (decide (0 ≤ a) && decide (a ≤ b) && decide (b ≤ len), a.toNat, b.toNat)
    | _, _ => none

def toVals (S : St) : List Operand → Option (List Val)
  | [] => some []
  | x :: r => match S.val? x, toVals S r with
    | some v, some vs => some (v :: vs)
    | _, _ => none

def zeroOf (Γ : Tab) (t : TypeId) : Option (Sigma Ty.den) :=
  match Γ.ty t with
  | some τ => match Γ.zero t with
    | some z => match τ.pack z with
      | some (x, []) => some ⟨τ, x⟩
      | _ => none
    | none => none
  | none => none

def capsOf (S : St) : List Operand → Option (List (Nat × Nat))
  | [] => some []
  | x :: r => match S.cell x, capsOf S r with
    | .ptr a b, some l => some ((a, b) :: l)
    | _, _ => none
def dstAt (ops : List Oper) (j : Nat) : Option Tmp := match lat? ops j with | some o => o.dst | none => none

def placesOf (Γ : Tab) : List Field → Option (List (Nat × Nat))
  | [] => some []
  | f :: r => match Γ.size f.type, placesOf Γ r with
    | some n, some l => some ((f.offset, n) :: l)
    | _, _ => none
def afill (places : List (Nat × Nat)) : List Cell → List (Nat × List Cell) → Option (List Cell)
  | cs, [] => some cs
  | cs, (i, p) :: r => match lat? places i with
    | some (off, n) => bif yes2 (Nat.beq (llen p) n) (Nat.ble (Nat.add off (llen p)) (llen cs)) then afill places (lapp (ltake off cs) (lapp p (ldrop (Nat.add off (llen p)) cs))) r else none
    | none => none
def abuild (Γ : Tab) (t : TypeId) (parts : List (Nat × List Cell)) : Option (List Cell) :=
  match Γ.und t with
  | some (.struct fs) => match placesOf Γ fs.toList, Γ.zero t with
    | some places, some z => afill places z parts
    | _, _ => none
  | _ => none
def partsOf (S : St) : List (Nat × Operand) → Option (List (Nat × List Cell))
  | [] => some []
  | (i, x) :: r => match S.val? x, partsOf S r with
    | some v, some ps => some ((i, v.cells) :: ps)
    | _, _ => none
def dense (sz : Nat) : Nat → List (Nat × List Cell) → Option (List Cell)
  | _, [] => some []
  | i, (j, p) :: r => bif yes2 (Nat.beq i j) (Nat.beq (llen p) sz) then (match dense sz (Nat.succ i) r with
    | some cs => some (lapp p cs)
    | none => none) else none
def packMany (τ : Ty) : Nat → List Cell → Option (List τ.den × List Cell)
  | 0, cs => some ([], cs)
  | n + 1, cs => match τ.pack cs with
    | some (x, r) => match packMany τ n r with
      | some (xs, r') => some (x :: xs, r')
      | none => none
    | none => none

def abase (S : St) (τ : Ty) : Val → Option (List τ.den × Bool × List Nat)
  | .one .nilS => some ([], true, [])
  | .one (.own o) => match S.obj o with
    | .row τ' xs dp => if h : τ' = τ then some (h ▸ xs, dp, [o]) else none
    | _ => none
  | _ => none
def asrc (S : St) (τ : Ty) : Val → Option (List τ.den × Bool × List Nat)
  | .one .nilS => some ([], true, [])
  | .one (.dat .str s) => if h : Ty.int .u8 = τ then some (h ▸ (show List (Ty.int .u8).den from strBytes s), true, []) else none
  | .one c => match S.rowOf c with
    | some ⟨τ', ys⟩ => if h : τ' = τ then
        bif τ.flat then some (h ▸ ys, true, []) else match c with
          | .own o => match S.obj o with
            | .row _ _ dp => some (h ▸ ys, dp, [o])
            | _ => none
          | .dat _ _ => some (h ▸ ys, false, [])
          | _ => none
      else none
    | none => none
  | _ => none

section
variable {ρ : Type} (Γ : Tab) (C : Orc)

def newAt (S : St) (m : Nat) (k : Option ρ) : Option ρ := match isFree S.objs m with | true => k | false => none

def aappend (Γ : Tab) (ts : List TypeId) (x y : Val) (m : Nat) (S : St) (k : Eff → Option ρ) : Option ρ :=
  match ts with
  | [t0, t1] =>
    match Γ.und t0, (match Γ.und t1 with | some (.slice _) | some .string => true | _ => false) with
    | some (.slice e), true =>
      match zeroOf Γ e, Γ.bytes e with
      | some ⟨τ, _⟩, some nb =>
        match abase S τ x, asrc S τ y with
        | some (xs, dp, os), some (ys, dp2, os') =>
          bif yes2 (Nat.ble 1 nb) (lnodup (lapp os os')) then
            chk (decide ((xs.length + ys.length) * nb ≤ 140737488355328))
              (newAt S m (k ⟨.val (.one (.own m)), lapp os os', [(m, .row τ (xs ++ ys) (yes2 dp dp2))], [], []⟩))
          else none
        | _, _ => none
      | _, _ => none
    | _, _ => none
  | _ => none

def minI (x y : Int) : Int := if y < x then y else x
def maxI (x y : Int) : Int := if x < y then y else x
def abuiltin (Γ : Tab) (b : Builtin) (ts : List TypeId) (vs : List Val) (m : Nat) (S : St) (k : Eff → Option ρ) : Option ρ :=
  match b, ts, vs with
  | .len, [t], [.one (.dat .str s)] => (match Γ.und t with | some .string => k (.pure (.val (.one (.dat (.int .i64) ((ByteArray.size s : Nat) : Int))))) | _ => none)
  | .len, [t], [.one .nilS] => (match Γ.und t with | some (.slice _) => k (.pure (.val (.one (.dat (.int .i64) (0 : Int))))) | _ => none)
  | .len, [t], [.one c] => match Γ.und t, S.rowOf c with
    | some (.slice _), some ⟨_, xs⟩ => k (.pure (.val (.one (.dat (.int .i64) ((xs.length : Nat) : Int)))))
    | _, _ => none
  | .min, _, [.one (.dat (.int q) x), .one (.dat (.int _) y)] => k (.pure (.val (.one (.dat (.int q) (minI x y)))))
  | .max, _, [.one (.dat (.int q) x), .one (.dat (.int _) y)] => k (.pure (.val (.one (.dat (.int q) (maxI x y)))))
  | .append, ts, [x, y] => aappend Γ ts x y m S k
  | _, _, _ => none

def St.storeEff (S : St) (a : Cell) (vs : List Cell) (k : Eff → Option ρ) : Option ρ :=
  match a with
  | .ptr o off => match S.obj o with
    | .box t cs => bif Nat.ble (Nat.add off (llen vs)) (llen cs) then k ⟨.nix, [], [(o, .box t (lapp (ltake off cs) (lapp vs (ldrop (Nat.add off (llen vs)) cs))))], [], []⟩ else none
    | _ => none
  | .eptr o i off => match S.hand vs with
    | none => none
    | some (vs', os, b) => match S.obj o with
      | .row t xs d => match t.putAt t.dflt off vs' with
        | some _ => bif yes2 (lnodup os) (bif lhas os o then false else true) then k ⟨.nix, os, [(o, .row t (rowPut t xs i off vs') (yes2 d b))], [], []⟩ else none
        | none => none
      | _ => none
  | _ => none

def rowStr : Option (Sigma fun t : Ty => List t.den) → Option ByteArray
  | some ⟨.int .u8, xs⟩ => some (bytesStr xs)
  | _ => none

def aeff (o : Oper) (m : Nat) (S : St) (k : Eff → Option ρ) : Option ρ :=
  match o.op with
  | .move x | .assign x => k (.pure (S.get x))
  | .pick c a b =>
    match S.cell c with
    | .dat .bool v =>
      match S.cell a, S.cell b with
      | .dat .bool x, .dat .bool y => k (.pure (.val (.one (.dat .bool (bif v then x else y)))))
      | _, _ => bif v then k (.pure (S.get a)) else k (.pure (S.get b))
    | _ => none
  | .alloc t => match Γ.zero t with
    | some z => newAt S m (k ⟨.val (.one (.ptr m 0)), [], [(m, .box t z)], [], []⟩)
    | none => none
  | .box t x =>
    match S.val? x with
    | some v => bif sizeIs (llen v.cells) (Γ.size t) then newAt S m (k ⟨.val (.one (.ptr m 0)), [], [(m, .box t v.cells)], [], []⟩) else none
    | none => none
  | .load t a =>
    match Γ.size t with
    | none => none
    | some n => match S.loadCells (S.cell a) n with
      | some cs => match Γ.ofCells t cs with
        | some v => k (.pure (.val v))
        | none => none
      | none => none
  | .store t a x =>
    match S.val? x with
    | some v => bif sizeIs (llen v.cells) (Γ.size t) then S.storeEff (S.cell a) v.cells k else none
    | none => none
  | .nilCheck x =>
    match S.cell x with
    | .ptr a b => match S.obj a with
      | .box _ _ => k (.pure (.val (.one (.ptr a b))))
      | _ => none
    | .eptr a b c => match S.obj a with
      | .row _ _ _ => k (.pure (.val (.one (.eptr a b c))))
      | _ => none
    | .rptr t x => k (.pure (.val (.one (.rptr t x))))
    | .fnL f c => k (.pure (.val (.one (.fnL f c))))
    | .fn f c => k (.pure (.val (.one (.fn f c))))
    | _ => none
  | .binOp op t x y _ =>
    match S.val? x, S.val? y with
    | some a, some b => match binCell Γ op t a b with
      | some (g, c) => chk g (k (.pure (.val (.one c))))
      | none => none
    | _, _ => none
  | .unOp op _ x => match unCell op (S.cell x) with
    | some c => k (.pure (.val (.one c)))
    | none => none
  | .convert src dst x =>
    match Γ.und src, Γ.und dst, S.cell x with
    | some _, some (.int q), .dat (.int _) n => k (.pure (.val (.one (.dat (.int q) (q.wrap n)))))
    | some _, some .string, .dat .str s => k (.pure (.val (.one (.dat .str s))))
    | some (.slice e), some .string, c => match Γ.und e, rowStr (S.rowOf c) with
      | some (.int .u8), some s => k (.pure (.val (.one (.dat .str s))))
      | _, _ => none
    | some _, some (.slice e), .dat .str s => match Γ.und e with
      | some (.int .u8) => chk (decide (ByteArray.size s ≤ 9223372036854775807)) (newAt S m (k ⟨.val (.one (.own m)), [], [(m, .row (.int .u8) (strBytes s) true)], [], []⟩))
      | _ => none
    | some (.slice _), some (.slice e), .own q => match Γ.und e, S.obj q with
      | some (.int .u8), .row (.int .u8) (_ :: _) _ => bif Nat.beq src dst then k (.pure (.val (.one (.own q)))) else none
      | _, _ => none
    | _, _, _ => none
  | .makeFunc fn first captured =>
    match fn, first.toList, capsOf S captured.toList with
    | .func f, [], some caps => k (.pure (.val (.one (.fnL f caps))))
    | _, _, _ => none
  | .makeSlice t l c =>
    match Γ.und t, cellI (S.cell l), cellI (S.cell c) with
    | some (.slice e), some a, some b => match zeroOf Γ e, Γ.bytes e with
      | some ⟨τ, z⟩, some nb => chk (decide (0 ≤ a) && decide (a ≤ b) && decide (b ≤ 140737488355328) && decide ((nb : Int) * b ≤ 140737488355328))
          (newAt S m (k ⟨.val (.one (.own m)), [], [(m, .row τ (List.replicate a.toNat z) true)], [], []⟩))
      | _, _ => none
    | _, _, _ => none
  | .slice t x lo hi none =>
    match Γ.und t, elemSize Γ t, S.cell x with
    | some .string, _, .dat .str s => match bounds S lo hi (ByteArray.size s) with
      | some (g, a, b) => chk g (k (.pure (.val (.one (.dat .str (ByteArray.extract s a b))))))
      | none => none
    | _, some m, .dat (.slice τ) xs => bif Nat.beq m τ.sz then (match bounds S lo hi (List.length (α := τ.den) xs) with
      | some (g, a, b) => chk g (k (.pure (.val (.one (.dat (.slice τ) (((show List τ.den from xs).drop a).take (b - a)))))))
      | none => none) else none
    | _, some m, .own q => match S.obj q with
      | .row τ xs _ => bif Nat.beq m τ.sz then (match bounds S lo hi xs.length with
        | some (g, a, b) => chk g (k (.pure (.val (.one (.win q a (b - a))))))
        | none => none) else none
      | _ => none
    | _, some m, .win q l n => match S.obj q with
      | .row τ _ _ => bif Nat.beq m τ.sz then (match bounds S lo hi n with
        | some (g, a, b) => chk g (k (.pure (.val (.one (.win q (l + a) (b - a))))))
        | none => none) else none
      | _ => none
    | _, _, _ => none
  | .fieldAddr s x f =>
    match fieldOf Γ s f with
    | some fl =>
      match Γ.size fl.type with
      | none => none
      | some n => bif Nat.beq n 0 then none else
        match S.cell x with
        | .ptr a off => match S.obj a with
          | .box _ _ => k (.pure (.val (.one (.ptr a (Nat.add off fl.offset)))))
          | _ => none
        | .eptr a i off => match S.obj a with
          | .row _ _ _ => k (.pure (.val (.one (.eptr a i (Nat.add off fl.offset)))))
          | _ => none
        | .rptr τ x => match τ.part x fl.offset n with
          | some ⟨τ', y⟩ => k (.pure (.val (.one (.rptr τ' y))))
          | none => none
        | _ => none
    | none => none
  | .field t x f =>
    match fieldOf Γ t f, S.val? x with
    | some fl, some (.agg cs) => match Γ.size fl.type with
      | none => none
      | some n => bif Nat.ble (Nat.add fl.offset n) (llen cs) then (match Γ.ofCells fl.type (ltake n (ldrop fl.offset cs)) with
        | some v => k (.pure (.val v))
        | none => none) else none
    | _, _ => none
  | .indexAddr t x i =>
    match elemSize Γ t, cellI (S.cell i) with
    | some n, some j =>
      match S.cell x with
      | .dat (.slice τ) xs => bif Nat.beq n τ.sz then chk (decide (0 ≤ j) && decide (j < (List.length (α := τ.den) xs : Nat))) (k (.pure (.val (.one (.rptr τ ((show List τ.den from xs).getD j.toNat τ.dflt)))))) else none
      | .own q => match S.obj q with
        | .row τ xs _ => bif Nat.beq n τ.sz then chk (decide (0 ≤ j) && decide (j < (xs.length : Nat))) (k (.pure (.val (.one (.eptr q j.toNat 0))))) else none
        | _ => none
      | .win q lo m => match S.obj q with
        | .row τ _ _ => bif Nat.beq n τ.sz then chk (decide (0 ≤ j) && decide (j < (m : Nat))) (k (.pure (.val (.one (.eptr q (lo + j.toNat) 0))))) else none
        | _ => none
      | _ => none
    | _, _ => none
  | .index t x i =>
    match Γ.und t, S.cell x, cellI (S.cell i) with
    | some .string, .dat .str s, some j => chk (decide (0 ≤ j) && decide (j < (ByteArray.size s : Nat))) (k (.pure (.val (.one (.dat (.int .u8) ((strBytes s).getD j.toNat 0))))))
    | _, _, _ => none
  | .extract x i =>
    match S.get x with
    | .tup vs => match lat? vs i with
      | some v => k (.pure (.val v))
      | none => none
    | _ => none
  | .build t parts =>
    match partsOf S parts.toList with
    | some ps => match abuild Γ t ps with
      | some cs => k (.pure (.val (.agg cs)))
      | none => none
    | none => none
  | .buildSlice t len parts =>
    match Γ.und t, partsOf S parts.toList with
    | some (.slice e), some ps =>
      match zeroOf Γ e with
      | some ⟨τ, _⟩ =>
        match dense τ.sz 0 ps with
        | some cs =>
          match S.hand cs with
          | some (cs', os, b) =>
            match packMany τ len cs' with
            | some (xs, []) => bif yes2 (Nat.beq (llen ps) len) (yes2 (lnodup os) (Nat.ble (Nat.mul len τ.sz) 16777216)) then
                newAt S m (k ⟨.val (.one (.own m)), os, [(m, .row τ xs b)], [], []⟩) else none
            | _ => none
          | none => none
        | none => none
      | none => none
    | _, _ => none
  | .call c =>
    match toVals S c.args.toList with
    | none => none
    | some vs =>
      match c.callee with
      | .builtin b => abuiltin Γ b c.argTypes.toList vs m S k
      | .value f => match S.cell f with
        | .fnL g caps => acallOp Γ C g c.argTypes.toList (lapp vs <| caps.map fun p => .one (.ptr p.1 p.2)) S k
        | .fn g caps => acallOp Γ C g c.argTypes.toList (lapp vs <| caps.map fun p => .one (.rptr p.1 p.2)) S k
        | _ => none
      | _ => none
  | _ => none

def loadSub (Γ : Tab) (o : Oper) (S : St) : Option St :=
  match o.op with
  | .load t a => match S.cell a with
    | .eptr q i off => match S.obj q with
      | .row τ0 xs true => match Γ.und t, τ0.part (xs.getD i τ0.dflt) off 1 with
        | some (.slice _), some ⟨.slice τ, ys⟩ => some (St.put { S with objs := lapp (lset S.objs q (.lent τ0 xs i off (llen S.objs))) [.row τ ys true] } o.dst (.val (.one (.own (llen S.objs)))))
        | _, _ => none
      | _ => none
    | _ => none
  | _ => none
def healGo : List AObj → Nat → St → Option St
  | [], _, S => some S
  | _ :: r, q, S => match S.obj q with
    | .lent t xs i off m => (match S.obj m with
      | .row τ ys true => match t.putAt t.dflt off [.dat (.slice τ) ys] with
        | some _ => healGo r (Nat.succ q) { S with objs := lset (lset S.objs q (.row t (rowPut t xs i off [.dat (.slice τ) ys]) true)) m .dead }
        | none => none
      | _ => none)
    | _ => healGo r (Nat.succ q) S
def St.heal (S : St) : Option St := healGo S.objs 0 S

def aop (o : Oper) (S : St) (k : St → Option ρ) : Option ρ := match loadSub Γ o S with
  | some S' => k S'
  | none => aeff Γ C o (llen S.objs) S fun e => k (S.apply o.dst e)

def forceL {α β : Type} (f : α → (α → β) → β) : List α → (List α → β) → β
  | [], k => k []
  | a :: l, k => f a fun a' => forceL f l fun l' => k (a' :: l')
def forceN {β : Type} : Nat → (Nat → β) → β
  | 0, k => k 0
  | n + 1, k => forceN n fun m => k (Nat.succ m)
def forceCell {β : Type} : Cell → (Cell → β) → β
  | .nix, k => k .nix
  | .dat t x, k => k (.dat t x)
  | .own o, k => forceN o fun o => k (.own o)
  | .win o a b, k => forceN o fun o => k (.win o a b)
  | .ptr o a, k => forceN o fun o => forceN a fun a => k (.ptr o a)
  | .eptr o a b, k => forceN o fun o => forceN b fun b => k (.eptr o a b)
  | .rptr t x, k => k (.rptr t x)
  | .fnL f c, k => forceL (fun p k => forceN p.1 fun a => forceN p.2 fun b => k (a, b)) c fun c' => k (.fnL f c')
  | .fn f c, k => k (.fn f c)
  | .nilS, k => k .nilS
  | .nilP, k => k .nilP
def forceVal {β : Type} : Val → (Val → β) → β
  | .one c, k => forceCell c fun c' => k (.one c')
  | .agg cs, k => forceL forceCell cs fun cs' => k (.agg cs')
def forceSlot {β : Type} : Slot → (Slot → β) → β
  | .nix, k => k .nix
  | .val v, k => forceVal v fun v' => k (.val v')
  | .tup vs, k => forceL forceVal vs fun vs' => k (.tup vs')
def forceObj {β : Type} : AObj → (AObj → β) → β
  | .dead, k => k .dead
  | .hole, k => k .hole
  | .box t cs, k => forceL forceCell cs fun cs' => k (.box t cs')
  | .row t xs d, k => k (.row t xs d)
  | .lent t xs i off m, k => forceN off fun off => forceN m fun m => k (.lent t xs i off m)
def St.force {β : Type} (S : St) (k : St → β) : β :=
  forceL forceSlot S.slots fun l => forceL forceObj S.objs fun m => k ⟨l, m⟩

def aops : List Oper → List Oper → St → (St → Option ρ) → Option ρ
  | _, [], S, k => match S.heal with | some S' => k S' | none => none
  | all, o :: r, S, k =>
    match o.guard with
    | none => aop Γ C o S fun S' => S'.force fun S'' => aops all r S'' k
    | some (j, want) =>
      match dstAt all j with
      | some g => match lget S.slots g .nix with
        | .val (.one (.dat .bool b)) =>
          match b, want with
          | true, true => aop Γ C o (S.put (some g) (.val (.one (.dat .bool true)))) fun S' => S'.force fun S'' => aops all r S'' k
          | false, false => aop Γ C o (S.put (some g) (.val (.one (.dat .bool false)))) fun S' => S'.force fun S'' => aops all r S'' k
          | true, false => ((S.put (some g) (.val (.one (.dat .bool true)))).put o.dst (.tup [])).force fun S'' => aops all r S'' k
          | false, true => ((S.put (some g) (.val (.one (.dat .bool false)))).put o.dst (.tup [])).force fun S'' => aops all r S'' k
        | .tup [] => (S.put o.dst (.tup [])).force fun S'' => aops all r S'' k
        | _ => none
      | none => none

def bindsAny (e : Edge) : Bool := match e.ground with | .textOnly _ => false | .gcOnly _ => false | _ => true
theorem bindsAny_eq (e : Edge) : Region.binds .any e = bindsAny e := by
  unfold Region.binds bindsAny; cases e.ground <;> rfl
def edgeTo (o : Oper) (j : Nat) : Bool := lany (fun e => yes2 (bindsAny e) (Nat.beq e.on j)) o.after.toList
def isCall (o : Oper) : Bool := match o.op with | .call c => (match c.callee with | .builtin _ => false | _ => true) | _ => false
def pairOK (ops : Array Oper) (x y : Oper) : Bool := yes2 (Oper.apart ops x y) (yes2 (Oper.apart ops y x) (bif isCall x then (bif isCall y then false else true) else true))
def laddK {β : Type} : List Nat → List Nat → (List Nat → β) → β
  | [], B, k => k B
  | a :: r, B, k => bif lhas B a then laddK r B k else laddK r (a :: B) k
def ancOfK {β : Type} (o : Oper) : List (Nat × List Nat) → List Nat → (List Nat → β) → β
  | [], B, k => k B
  | (j, A) :: r, B, k => bif edgeTo o j then laddK (j :: A) B fun B => ancOfK o r B k else ancOfK o r B k
def ancs {β : Type} : List Oper → Nat → List (Nat × List Nat) → (List (List Nat) → β) → β
  | [], _, _, k => k []
  | o :: r, i, done, k => forceN i fun i => ancOfK o done [] fun A => ancs r (Nat.succ i) ((i, A) :: done) fun T => k (A :: T)
def pairsOK (ops : Array Oper) (A : List Nat) (o : Oper) : List (Nat × Oper) → Bool
  | [] => true
  | (j, x) :: r => bif (bif lhas A j then true else pairOK ops x o) then pairsOK ops A o r else false
def edgesBelow (i : Nat) (o : Oper) : Bool := o.after.toList.all fun e => bif bindsAny e then Nat.blt e.on i else true
def notSelect (o : Oper) : Bool := match o.op with | .select _ _ => false | _ => true
def staticGo (ops : Array Oper) (T : List (List Nat)) : Nat → List Oper → List (Nat × Oper) → Bool
  | _, [], _ => true
  | i, o :: r, done => bif yes2 (edgesBelow i o) (yes2 (notSelect o) (pairsOK ops (lget T i []) o done)) then staticGo ops T (Nat.succ i) r ((i, o) :: done) else false
def freeOf (A : List Nat) (R U : List Nat) : List (Nat × List Nat × List Nat) → Bool
  | [] => true
  | (j, Rj, Uj) :: r => bif (bif lhas A j then true else bif lmeet Rj U then false else bif lmeet Uj R then false else bif lmeet Uj U then false else true) then freeOf A R U r else false
def stepOK (n : Nat) (e : Eff) : Bool := match e.frz with | [] => yes2 (allBelow n e.kills) (allBelow n (e.sets.map (·.1))) | _ => false
def adrawGo (ops : Array Oper) (T : List (List Nat)) (base : Nat) : Nat → List Oper → List (Nat × List Nat × List Nat) → St → (St → Option ρ) → Option ρ
  | _, [], _, S, k => k S
  | i, o :: r, done, S, k =>
    match o.guard with
    | none =>
      aeff Γ C o (Nat.add base i) S fun e =>
        bif yes2 (stepOK (llen S.objs) e) (freeOf (lget T i []) (Nat.add base i :: opIds S o) (e.touch (llen S.objs)) done) then
          forceN i fun i => forceL forceN (Nat.add base i :: opIds S o) fun R => forceL forceN (e.touch (llen S.objs)) fun U => (S.apply o.dst e).force fun S' => adrawGo ops T base (Nat.succ i) r ((i, R, U) :: done) S' k
        else none
    | some (j, want) =>
      match dstAt ops.toList j with
      | some g => match lget S.slots g .nix with
        | .val (.one (.dat .bool b)) =>
          match b, want with
          | true, true => (fun S : St => aeff Γ C o (Nat.add base i) S fun e =>
              bif yes2 (stepOK (llen S.objs) e) (freeOf (lget T i []) (Nat.add base i :: opIds S o) (e.touch (llen S.objs)) done) then
                forceN i fun i => forceL forceN (Nat.add base i :: opIds S o) fun R => forceL forceN (e.touch (llen S.objs)) fun U => (S.apply o.dst e).force fun S' => adrawGo ops T base (Nat.succ i) r ((i, R, U) :: done) S' k
              else none) (S.put (some g) (.val (.one (.dat .bool true))))
          | false, false => (fun S : St => aeff Γ C o (Nat.add base i) S fun e =>
              bif yes2 (stepOK (llen S.objs) e) (freeOf (lget T i []) (Nat.add base i :: opIds S o) (e.touch (llen S.objs)) done) then
                forceN i fun i => forceL forceN (Nat.add base i :: opIds S o) fun R => forceL forceN (e.touch (llen S.objs)) fun U => (S.apply o.dst e).force fun S' => adrawGo ops T base (Nat.succ i) r ((i, R, U) :: done) S' k
              else none) (S.put (some g) (.val (.one (.dat .bool false))))
          | true, false => ((S.put (some g) (.val (.one (.dat .bool true)))).put o.dst (.tup [])).force fun S'' => adrawGo ops T base (Nat.succ i) r ((i, [], []) :: done) S'' k
          | false, true => ((S.put (some g) (.val (.one (.dat .bool false)))).put o.dst (.tup [])).force fun S'' => adrawGo ops T base (Nat.succ i) r ((i, [], []) :: done) S'' k
        | .tup [] => (S.put o.dst (.tup [])).force fun S'' => adrawGo ops T base (Nat.succ i) r ((i, [], []) :: done) S'' k
        | _ => none
      | none => none
def adraw (ops : Array Oper) (S : St) (k : St → Option ρ) : Option ρ :=
  ancs ops.toList 0 [] fun T =>
  bif staticGo ops T 0 ops.toList [] then
    adrawGo Γ C ops T (llen S.objs) 0 ops.toList [] { S with objs := lpad (Nat.add (llen S.objs) (llen ops.toList)) .hole S.objs } k
  else none

inductive Ex where
  | normal
  | exit (id : Nat)
  | ret

def Cell.rename (ids : List Nat) : Cell → Cell
  | .own o => bif lhas ids o then .own (lidx ids o) else .nix
  | .win o a b => bif lhas ids o then .win (lidx ids o) a b else .nix
  | .ptr o a => bif lhas ids o then .ptr (lidx ids o) a else .nix
  | .eptr o a b => bif lhas ids o then .eptr (lidx ids o) a b else .nix
  | .fnL f caps => bif lany (fun p => bif lhas ids p.1 then false else true) caps then .nix else .fnL f (caps.map fun p => (lidx ids p.1, p.2))
  | c => c
def liveGo (live : List Tmp) : Nat → List Slot → List Slot
  | _, [] => []
  | i, s :: r => (bif lhas live i then s else .nix) :: liveGo live (Nat.succ i) r
def St.liveSlots (S : St) (live : List Tmp) : List Slot := liveGo live 0 S.slots
def St.idsOf (_ : St) (keep : Nat) (slots : List Slot) : List Nat := slots.foldl (fun acc s => addIds acc s.ids) (rangeFrom 0 keep)
def St.idsOn (S : St) (ids0 : List Nat) : List Nat := ids0.foldl (fun acc i => addIds acc (S.obj i).ids) ids0
def AObj.fix : AObj → AObj
  | .lent _ _ _ _ _ => .dead
  | x => x
def St.choose (S : St) (slots : List Slot) (ids : List Nat) : St := { slots := slots.map (·.mapC (Cell.rename ids)), objs := ids.map fun i => ((S.obj i).fix).mapC (Cell.rename ids) }
def St.canon (S : St) (keep : Nat) (live : List Tmp) : St := S.choose (S.liveSlots live) (S.idsOn (S.idsOf keep (S.liveSlots live)))

def addIdsK {β : Type} : List Nat → List Nat → (List Nat → β) → β
  | acc, [], k => k acc
  | acc, i :: r, k => forceN i fun i => bif lhas acc i then addIdsK acc r k else forceL forceN (lapp acc [i]) fun acc => addIdsK acc r k
def foldIdsK {α β : Type} (f : α → List Nat) : List α → List Nat → (List Nat → β) → β
  | [], acc, k => k acc
  | a :: l, acc, k => addIdsK acc (f a) fun acc => foldIdsK f l acc k
def St.canonF {β : Type} (S : St) (keep : Nat) (live : List Tmp) (k : St → β) : β :=
  forceL forceN live fun live =>
  forceL forceSlot (S.liveSlots live) fun slots =>
  forceL forceN (rangeFrom 0 keep) fun ids =>
  foldIdsK Slot.ids slots ids fun ids0 =>
  foldIdsK (fun i => (S.obj i).ids) ids0 ids0 fun ids =>
  (S.choose slots ids).force k

def aloop (body : St → (Ex → St → Option ρ) → Option ρ) (keep : Nat) (live : List Tmp) : Nat → St → (Ex → St → Option ρ) → Option ρ
  | 0, _, _ => none
  | n + 1, S, k => body S fun e S' => match e with
    | .normal => S'.canonF keep live fun S'' => aloop body keep live n S'' k
    | e => k e S'

def acode (keep : Nat) (live : Nat → List Tmp) (n : Nat) : Code → (blk : Nat) → St → (Ex → St → Option ρ) → Option ρ
  | .skip, _, S, k => k .normal S
  | .region _ ops false, _, S, k => aops Γ C ops.toList ops.toList S (k .normal)
  | .region _ ops true, _, S, k => adraw Γ C ops S (k .normal)
  | .seq a b, i, S, k => acode keep live n a i S fun e S' => match e with
    | .normal => acode keep live n b i S' k
    | e => k e S'
  | .cond c a b, i, S, k => match S.cell c with
    | .dat .bool v => match (show Bool from v) with
      | true => acode keep live n a i S k
      | false => acode keep live n b i S k
    | _ => none
  | .block id c, _, S, k => acode keep live n c id S fun e S' => match e with
    | .exit j => bif Nat.beq j id then k .normal S' else k (.exit j) S'
    | e => k e S'
  | .loop b, i, S, k => S.canonF keep (live i) fun S'' => aloop (fun S' k' => acode keep live n b i S' k') keep (live i) n S'' k
  | .exit id, _, S, k => k (.exit id) S
  | .ret, _, S, k => k .ret S
  | _, _, _, _ => none

def giveX (S : St) : Cell → Option (X × List Nat)
  | .ptr o 0 => match S.obj o with
    | .box t cs => match lendAll S.give cs with | some (xs, os) => some (.box t xs, lapp os [o]) | none => none
    | _ => none
  | c => match S.give c with | some (x, os) => some (.c x, os) | none => none
def giveAll (S : St) : List Cell → Option (List X × List Nat)
  | [] => some ([], [])
  | c :: r => match giveX S c, giveAll S r with
    | some (x, os), some (xs, os') => some (x :: xs, lapp os os')
    | _, _ => none
def giveVals (S : St) : List Val → Option (List XV × List Nat)
  | [] => some ([], [])
  | v :: r => match giveAll S v.cells, giveVals S r with
    | some (x, os), some (xs, os') => some (⟨(match v with | .agg _ => true | _ => false), x⟩ :: xs, lapp os os')
    | _, _ => none
def resVals (Γ : Tab) (S : St) : List ResultVar → Option (List Val)
  | [] => some []
  | .tmp t :: r => match lget S.slots t .nix, resVals Γ S r with
    | .val v, some vs => some (v :: vs)
    | _, _ => none
  | .cell a t :: r => match Γ.size t, resVals Γ S r with
    | some n, some vs => match S.loadCells (S.cell (.tmp a)) n with
      | some cs => match Γ.ofCells t cs with
        | some v => some (v :: vs)
        | none => none
      | none => none
    | _, _ => none

def giveMuts (S : St) : List Nat → Option (List X × List Nat)
  | [] => some ([], [])
  | o :: r =>
    match giveMuts S r with
    | none => none
    | some (xs, os) =>
      match S.obj o with
      | .row t ys d => some (.c (.row t ys d) :: xs, os)
      | .box t cs => match lendAll S.give cs with
        | some (ys, os') => some (.box t ys :: xs, lapp os' os)
        | none => none
      | _ => none

def leave (Γ : Tab) (fn : Func) (muts : List Nat) (S : St) : Option Res :=
  match resVals Γ S fn.results.toList with
  | none => none
  | some vs =>
    match giveVals S (fixVals Γ fn.resultTypes.toList vs), giveMuts S muts with
    | some (xs, os), some (us, os') => bif lnodup (lapp muts (lapp os' os)) then some ⟨xs, us⟩ else none
    | _, _ => none

def ownsOf : List Cell → List Nat
  | [] => []
  | .own o :: r => o :: ownsOf r
  | _ :: r => ownsOf r
def mutsOf : List Mode → List Val → List Nat
  | .wr :: ms, .one (.own o) :: vs => o :: mutsOf ms vs
  | .wr :: ms, .agg cs :: vs => lapp (ownsOf cs) (mutsOf ms vs)
  | .wr :: ms, .one (.ptr o _) :: vs => o :: mutsOf ms vs
  | _ :: ms, _ :: vs => mutsOf ms vs
  | _, _ => []

def fin (Γ : Tab) (f : FuncId) (fn : Func) (muts : List Nat) : Ex → St → Option Res
  | .exit _, _ => none
  | _, S => leave Γ fn muts (S.prep Γ (Γ.outs f) 0 fn.results.toList fn.resultTypes.toList)
def abody (Γ : Tab) (C : Orc) (n : Nat) (f : FuncId) (args : List XV) : Option Res :=
  match Γ.fn f with
  | none => none
  | some fn =>
    match fn.body, takeVs 0 args with
    | some c, some (vs, os) =>
      St.force ⟨lpad fn.ntmps .nix (vs.map .val), os⟩ fun S1 => acode Γ C (llen os) (Γ.live f) n c 0 S1 (fin Γ f fn (mutsOf (Γ.mode f) vs))
    | _, _ => none

end
end Go.Proofs.GR

namespace Go.Proofs.GR

def CellsAt (w : World) (ad : Addr) (cs : List Value) : Prop := ∀ j v, cs[j]? = some v → w.cell? (ad.add j) = some v

def flatN {α : Type} (f : Nat → List α) (n : Nat) : List α := (List.range n).flatMap f

theorem mem_flatN {α : Type} {f : Nat → List α} {n : Nat} {a : α} : a ∈ flatN f n ↔ ∃ i, i < n ∧ a ∈ f i := by
  simp [flatN]

structure RowAt (w : World) (sz : Nat) {α : Type} (R : α → List Value → List Nat → Prop) (A : Option Addr) (c : Nat) (xs : List α) (F : List Nat) : Prop where
  le : xs.length ≤ c
  cap : c ≤ maxLen
  nil : A = none → xs = [] ∧ c = 0 ∧ F = []
  lt : ∀ ad, A = some ad → xs ≠ [] → ad.block < w.heap.size
  some_ : ∀ ad, A = some ad → ∃ (css : Nat → List Value) (Fs : Nat → List Nat), F = (if xs.isEmpty then [] else [ad.block]) ++ flatN Fs xs.length ∧
    ∀ i x, xs[i]? = some x → CellsAt w (ad.add (i * sz)) (css i) ∧ (css i).length = sz ∧ R x (css i) (Fs i)

def Rep (w : World) : (t : Ty) → t.den → List Value → List Nat → Prop
  | .int k, x, cs, F => cs = [.int k x] ∧ F = []
  | .bool, x, cs, F => cs = [.bool x] ∧ F = []
  | .str, x, cs, F => cs = [.string x] ∧ F = []
  | .unit, _, cs, F => cs = [] ∧ F = []
  | .pair a b, x, cs, F => ∃ c1 c2 F1 F2, Rep w a x.1 c1 F1 ∧ Rep w b x.2 c2 F2 ∧ cs = c1 ++ c2 ∧ F = F1 ++ F2
  | .slice t, xs, cs, F => ∃ A c, cs = [.slice A (List.length (α := t.den) xs) c] ∧ RowAt w t.sz (Rep w t) A c (show List t.den from xs) F
  | .rose t, r, cs, F => Rose.fold (fun x (ps : List (List Value → List Nat → Prop)) => fun cs F => ∃ c1 F1 A c F2, Rep w t x c1 F1 ∧ RowAt w (t.sz + 1) (fun p => p) A c ps F2 ∧ cs = c1 ++ [.slice A ps.length c] ∧ F = F1 ++ F2) r cs F

theorem RowAt.map {w : World} {sz : Nat} {α β : Type} {R : β → List Value → List Nat → Prop} {f : α → β} {A : Option Addr} {c : Nat} {xs : List α} {F : List Nat} : RowAt w sz R A c (xs.map f) F ↔ RowAt w sz (fun x => R (f x)) A c xs F := by
  constructor
  · rintro ⟨h1, h2, h3, h4, h5⟩
    refine ⟨by simpa using h1, h2, fun h => ?_, fun ad had hne => h4 ad had (by simpa using hne), fun ad had => ?_⟩
    · obtain ⟨a, b, c⟩ := h3 h
      exact ⟨by simpa using a, b, c⟩
    · obtain ⟨css, Fs, hF, hall⟩ := h5 ad had
      refine ⟨css, Fs, by simpa using hF, fun i x hi => hall i (f x) (by rw [List.getElem?_map, hi]; rfl)⟩
  · rintro ⟨h1, h2, h3, h4, h5⟩
    refine ⟨by simpa using h1, h2, fun h => ?_, fun ad had hne => h4 ad had (by simpa using hne), fun ad had => ?_⟩
    · obtain ⟨a, b, c⟩ := h3 h
      exact ⟨by simpa using a, b, c⟩
    · obtain ⟨css, Fs, hF, hall⟩ := h5 ad had
      refine ⟨css, Fs, by simpa using hF, fun i x hi => ?_⟩; rw [List.getElem?_map] at hi; obtain ⟨y, hy, rfl⟩ := Option.map_eq_some_iff.1 hi; exact hall i y hy
theorem Rep.rose_iff {w : World} {t : Ty} {r : (Ty.rose t).den} {cs : List Value} {F : List Nat} : Rep w (.rose t) r cs F ↔ ∃ c1 c2 F1 F2, Rep w t (Rose.a r) c1 F1 ∧ Rep w (.slice (.rose t)) (Rose.kids r) c2 F2 ∧ cs = c1 ++ c2 ∧ F = F1 ++ F2 := by
  cases r with
  | mk x k =>
    show (Rose.fold (β := List Value → List Nat → Prop) _ (Rose.mk x k)) cs F ↔ _
    rw [Rose.fold_mk]; constructor
    · rintro ⟨c1, F1, A, c, F2, h1, h2, h3, h4⟩
      exact ⟨c1, _, F1, F2, h1, ⟨A, c, rfl, (RowAt.map (w := w) (sz := t.sz + 1) (R := fun p => p) (f := (Rep w (.rose t) : Rose t.den → List Value → List Nat → Prop)) (A := A) (c := c) (xs := k) (F := F2)).1 h2⟩, by rw [h3, List.length_map]; rfl, h4⟩
    · rintro ⟨c1, c2, F1, F2, h1, ⟨A, c, hc, h2⟩, h3, h4⟩
      subst hc
      exact ⟨c1, F1, A, c, F2, h1, (RowAt.map (w := w) (sz := t.sz + 1) (R := fun p => p) (f := (Rep w (.rose t) : Rose t.den → List Value → List Nat → Prop)) (A := A) (c := c) (xs := k) (F := F2)).2 h2, by rw [h3, List.length_map]; rfl, h4⟩
theorem RowAt.imp {w w' : World} {sz : Nat} {α : Type} {R R' : α → List Value → List Nat → Prop} {A : Option Addr} {c : Nat} {xs : List α} {F : List Nat} (h : RowAt w sz R A c xs F) (hb : ∀ b ∈ F, w'.heap[b]? = w.heap[b]?) (hca : ∀ (ad : Addr) (cs : List Value), CellsAt w ad cs → (cs ≠ [] → w'.heap[ad.block]? = w.heap[ad.block]?) → CellsAt w' ad cs)
    (hR : ∀ x ∈ xs, ∀ cs F, R x cs F → (∀ b ∈ F, w'.heap[b]? = w.heap[b]?) → R' x cs F) : RowAt w' sz R' A c xs F := by
  refine ⟨h.le, h.cap, h.nil, fun ad had hne => ?_, fun ad had => ?_⟩
  · obtain ⟨css, Fs, hF, _⟩ := h.some_ ad had
    have hlt := h.lt ad had hne
    have hin : ad.block ∈ F := by
      subst hF; refine List.mem_append_left _ ?_
      cases hx : xs with
      | nil => exact absurd hx hne
      | cons _ _ => simp
    have := hb _ hin; rw [Array.getElem?_eq_getElem hlt] at this; exact (Array.getElem?_eq_some_iff.1 this).1
  obtain ⟨css, Fs, hF, hall⟩ := h.some_ ad had; refine ⟨css, Fs, hF, fun i x hi => ?_⟩; obtain ⟨hcs, hlen, hrep⟩ := hall i x hi; have hil : i < xs.length := (List.getElem?_eq_some_iff.1 hi).1
  have hne : xs.isEmpty = false := by
    cases hx : xs with
    | nil => rw [hx] at hil; simp at hil
    | cons _ _ => rfl
  subst hF; refine ⟨hca _ _ hcs (fun _ => ?_), hlen, hR x (List.mem_of_getElem? hi) _ _ hrep (fun b hb' => hb b ?_)⟩
  · have e : (ad.add (i * sz)).block = ad.block := by unfold Addr.add; split <;> rfl
    rw [e]; refine hb _ (List.mem_append_left _ ?_); rw [hne]
    simp
  · exact List.mem_append_right _ (mem_flatN.2 ⟨i, hil, hb'⟩)
theorem RowAt.ltF {w : World} {sz : Nat} {α : Type} {R : α → List Value → List Nat → Prop} {A : Option Addr} {c : Nat} {xs : List α} {F : List Nat} (hr : RowAt w sz R A c xs F) (hR : ∀ x ∈ xs, ∀ cs F, R x cs F → ∀ b ∈ F, b < w.heap.size) : ∀ b ∈ F, b < w.heap.size := by
  intro k hk
  cases A with
  | none => rw [(hr.nil rfl).2.2] at hk; simp at hk
  | some ad =>
    obtain ⟨css, Fs, hF, hall⟩ := hr.some_ ad rfl; subst hF
    rcases List.mem_append.1 hk with hk | hk
    · cases hx : xs with
      | nil => rw [hx] at hk; simp at hk
      | cons y ys =>
        rw [hx] at hk
        simp at hk
        subst hk; exact hr.lt ad rfl (by rw [hx]; simp)
    · obtain ⟨i, hi, hki⟩ := mem_flatN.1 hk
      obtain ⟨x, hx⟩ : ∃ x, xs[i]? = some x := ⟨_, List.getElem?_eq_getElem hi⟩; exact hR x (List.mem_of_getElem? hx) _ _ (hall i x hx).2.2 k hki

theorem CellsAt.mono {w w' : World} {ad : Addr} {cs : List Value} (h : CellsAt w ad cs) (hb : cs ≠ [] → w'.heap[ad.block]? = w.heap[ad.block]?) : CellsAt w' ad cs := by
  intro j v hj
  have hne : cs ≠ [] := by rintro rfl; simp at hj
  have hblk : (ad.add j).block = ad.block := by unfold Addr.add; split <;> rfl
  rw [World.cell?_of_block (w := w) (by rw [hblk]; exact hb hne)]; exact h j v hj

theorem add_block (ad : Addr) (n : Nat) : (ad.add n).block = ad.block := by unfold Addr.add; split <;> rfl
theorem add_add (ad : Addr) (m n : Nat) : (ad.add m).add n = ad.add (m + n) := by
  unfold Addr.add
  by_cases hm : m = 0
  · subst hm
    simp
  · by_cases hn : n = 0
    · subst hn
      simp
    · simp [hm, hn, Nat.add_assoc]

theorem Rep.mono {w w' : World} : ∀ (t : Ty) (x : t.den) (cs : List Value) (F : List Nat), Rep w t x cs F → (∀ b ∈ F, w'.heap[b]? = w.heap[b]?) → Rep w' t x cs F
  | .int _, _, _, _, h, _ => h
  | .bool, _, _, _, h, _ => h
  | .str, _, _, _, h, _ => h
  | .unit, _, _, _, h, _ => h
  | .pair a b, x, cs, F, ⟨c1, c2, F1, F2, h1, h2, hc, hF⟩, hb => by
    subst hF; exact ⟨c1, c2, F1, F2, Rep.mono a _ _ _ h1 (fun b hb' => hb b (List.mem_append_left _ hb')), Rep.mono b _ _ _ h2 (fun b hb' => hb b (List.mem_append_right _ hb')), hc, rfl⟩
  | .slice t, xs, cs, F, ⟨A, c, hc, hr⟩, hb => ⟨A, c, hc, hr.imp hb (fun _ _ h => h.mono) (fun x _ _ _ h hb => Rep.mono t x _ _ h hb)⟩
  | .rose t, r, cs, F, h, hb => by
    revert cs F
    refine Rose.ind (Q := fun r => ∀ cs F, Rep w (.rose t) r cs F → (∀ b ∈ F, w'.heap[b]? = w.heap[b]?) → Rep w' (.rose t) r cs F) (fun x k ih cs F h hb => ?_) r
    obtain ⟨c1, c2, F1, F2, h1, ⟨A, c, hc, h2⟩, h3, h4⟩ := Rep.rose_iff.1 h; subst h4; exact Rep.rose_iff.2 ⟨c1, c2, F1, F2, Rep.mono t _ _ _ h1 (fun b hb' => hb b (List.mem_append_left _ hb')), ⟨A, c, hc, h2.imp (fun b hb' => hb b (List.mem_append_right _ hb')) (fun _ _ h => h.mono) (fun y hy _ _ h hb => ih y hy _ _ h hb)⟩, h3, rfl⟩

theorem Rep.len {w : World} : ∀ (t : Ty) (x : t.den) (cs : List Value) (F : List Nat), Rep w t x cs F → cs.length = t.sz
  | .int _, _, _, _, h => by rw [h.1]; rfl
  | .bool, _, _, _, h => by rw [h.1]; rfl
  | .str, _, _, _, h => by rw [h.1]; rfl
  | .unit, _, _, _, h => by rw [h.1]; rfl
  | .pair a b, x, cs, F, ⟨c1, c2, F1, F2, h1, h2, hc, hF⟩ => by
    rw [hc, List.length_append, Rep.len a _ _ _ h1, Rep.len b _ _ _ h2]; rfl
  | .slice t, xs, cs, F, ⟨A, c, hc, hr⟩ => by rw [hc]; rfl
  | .rose t, r, cs, F, h => by
    obtain ⟨c1, c2, F1, F2, h1, ⟨A, c, hc, h2⟩, h3, h4⟩ := Rep.rose_iff.1 h; rw [h3, hc, List.length_append, Rep.len t _ _ _ h1]; rfl

theorem Rep.one {w : World} : ∀ (t : Ty) (x : t.den) (cs : List Value) (F : List Nat), Rep w t x cs F → ∀ v ∈ cs, v.oneCell' = true
  | .int _, _, _, _, h, v, hv => by rw [h.1] at hv; simp at hv; subst hv; rfl
  | .bool, _, _, _, h, v, hv => by rw [h.1] at hv; simp at hv; subst hv; rfl
  | .str, _, _, _, h, v, hv => by rw [h.1] at hv; simp at hv; subst hv; rfl
  | .unit, _, _, _, h, v, hv => by rw [h.1] at hv; simp at hv
  | .pair a b, x, cs, F, ⟨c1, c2, F1, F2, h1, h2, hc, hF⟩, v, hv => by
    rw [hc] at hv
    rcases List.mem_append.1 hv with hv | hv
    · exact Rep.one a _ _ _ h1 v hv
    · exact Rep.one b _ _ _ h2 v hv
  | .slice t, xs, cs, F, ⟨A, c, hc, hr⟩, v, hv => by rw [hc] at hv; simp at hv; subst hv; rfl
  | .rose t, r, cs, F, h, v, hv => by
    obtain ⟨c1, c2, F1, F2, h1, ⟨A, c, hc, h2⟩, h3, h4⟩ := Rep.rose_iff.1 h; rw [h3, hc] at hv
    rcases List.mem_append.1 hv with hv | hv
    · exact Rep.one t _ _ _ h1 v hv
    · simp at hv; subst hv; rfl

theorem Rep.lt {w : World} : ∀ (t : Ty) (x : t.den) (cs : List Value) (F : List Nat), Rep w t x cs F → ∀ b ∈ F, b < w.heap.size
  | .int _, _, _, _, h, b, hb => by rw [h.2] at hb; simp at hb
  | .bool, _, _, _, h, b, hb => by rw [h.2] at hb; simp at hb
  | .str, _, _, _, h, b, hb => by rw [h.2] at hb; simp at hb
  | .unit, _, _, _, h, b, hb => by rw [h.2] at hb; simp at hb
  | .pair a b, x, cs, F, ⟨c1, c2, F1, F2, h1, h2, hc, hF⟩, k, hk => by
    subst hF
    rcases List.mem_append.1 hk with hk | hk
    · exact Rep.lt a _ _ _ h1 k hk
    · exact Rep.lt b _ _ _ h2 k hk
  | .slice t, xs, cs, F, ⟨A, c, hc, hr⟩, k, hk => hr.ltF (fun x _ _ _ h => Rep.lt t x _ _ h) k hk
  | .rose t, r, cs, F, h, k, hk => by
    revert cs F k
    refine Rose.ind (Q := fun r => ∀ cs F, Rep w (.rose t) r cs F → ∀ k ∈ F, k < w.heap.size) (fun x k ih cs F h => ?_) r
    obtain ⟨c1, c2, F1, F2, h1, ⟨A, c, hc, h2⟩, h3, h4⟩ := Rep.rose_iff.1 h; subst h4; intro b hb
    rcases List.mem_append.1 hb with hb | hb
    · exact Rep.lt t _ _ _ h1 b hb
    · exact h2.ltF (fun y hy _ _ h => ih y hy _ _ h) b hb

def ownBlk (v : Value) : List Nat := v.ownBlock.toList

def OwnRow (w : World) (size : Nat) (v : Value) (n : Nat) (xs : List Value) : Prop :=
  xs.length = n * size ∧ ((v = .slice none 0 0 ∧ n = 0) ∨
    ∃ g cap cur e fz, v = .slice (some ⟨g, 0, none⟩) n cap ∧ w.heap[g]? = some (.cells cur e fz) ∧ (fz = (0, 0) ∨ cur.size ≤ fz.1) ∧ n ≤ cap ∧ cap ≤ maxLen ∧ cur.size = cap * size ∧ cur.toList.take (n * size) = xs)


theorem flatN_succ {α : Type} (f : Nat → List α) (n : Nat) : flatN f (n + 1) = flatN f n ++ f n := by
  simp [flatN, List.range_succ]
theorem flatN_congr {α : Type} {f g : Nat → List α} {n : Nat} (h : ∀ i, i < n → f i = g i) : flatN f n = flatN g n := by
  induction n with
  | zero => rfl
  | succ n ih => rw [flatN_succ, flatN_succ, ih (fun i hi => h i (by omega)), h n (by omega)]

theorem flatN_at {α : Type} {f : Nat → List α} {sz : Nat} : ∀ (n : Nat), (∀ i, i < n → (f i).length = sz) → ∀ i j, i < n → j < sz → (flatN f n)[i * sz + j]? = (f i)[j]?
  | 0, _, i, _, hi, _ => by omega
  | n + 1, hl, i, j, hi, hj => by
    have hlen : (flatN f n).length = n * sz := by
      clear hi hj
      induction n with
      | zero => simp [flatN]
      | succ n ih => rw [flatN_succ, List.length_append, ih (fun i hi => hl i (by omega)), hl n (by omega), Nat.succ_mul]
    rw [flatN_succ]
    by_cases h : i < n
    · rw [List.getElem?_append_left]
      · exact flatN_at n (fun i hi => hl i (by omega)) i j h hj
      · rw [hlen]
        calc i * sz + j < i * sz + sz := by omega
          _ = (i + 1) * sz := by rw [Nat.succ_mul]
          _ ≤ n * sz := Nat.mul_le_mul_right _ (by omega)
    · have : i = n := by omega
      subst this; rw [List.getElem?_append_right (by rw [hlen]; omega), hlen]
      congr 1
      omega

theorem flatN_len {α : Type} {f : Nat → List α} {sz : Nat} : ∀ (n : Nat), (∀ i, i < n → (f i).length = sz) → (flatN f n).length = n * sz
  | 0, _ => by simp [flatN]
  | n + 1, hl => by rw [flatN_succ, List.length_append, flatN_len n (fun i hi => hl i (by omega)), hl n (by omega), Nat.succ_mul]

theorem OwnRow.cells {w : World} {size : Nat} {v : Value} {n : Nat} {xs : List Value} (h : OwnRow w size v n xs) {g : Nat} (hg : v.ownBlock = some g) :
    ∀ j u, xs[j]? = some u → w.cell? ((⟨g, 0, none⟩ : Addr).add j) = some u := by
  intro j u hj
  rcases h.2 with ⟨rfl, _⟩ | ⟨g', cap, cur, e, fz, rfl, hb, hfz, hle, hcm, hcs, htk⟩
  · cases hg
  · have : g' = g := by simpa [Value.ownBlock] using hg
    subst this
    have hadd : (⟨g', 0, none⟩ : Addr).add j = ⟨g', j, none⟩ := by unfold Addr.add; split <;> simp_all
    rw [hadd, cell_of_row w g' j cur e fz hb]; rw [← htk, List.getElem?_take] at hj; split at hj
    · simpa using hj
    · cases hj

theorem OwnRow.mono {w w' : World} {sz : Nat} {v : Value} {n : Nat} {xs : List Value} (h : OwnRow w sz v n xs) (hb : ∀ k, v.ownBlock = some k → w'.heap[k]? = w.heap[k]?) : OwnRow w' sz v n xs := by
  refine ⟨h.1, ?_⟩
  rcases h.2 with hn | ⟨g, cap, cur, e, fz, hv, hg, rest⟩
  · exact .inl hn
  · exact .inr ⟨g, cap, cur, e, fz, hv, by rw [hb g (by rw [hv]; rfl)]; exact hg, rest⟩
theorem OwnRow.lt {w : World} {sz : Nat} {v : Value} {n : Nat} {xs : List Value} (h : OwnRow w sz v n xs) : ∀ b ∈ ownBlk v, b < w.heap.size := by
  intro b hb
  have hb1 : v.ownBlock = some b := by simpa [ownBlk] using hb
  rcases h.2 with ⟨rfl, _⟩ | ⟨g, cap, cur, e, fz, rfl, hg, _⟩
  · cases hb1
  · have : g = b := by simpa [Value.ownBlock] using hb1
    subst this; exact (Array.getElem?_eq_some_iff.1 hg).1

def ORow (w : World) (sz : Nat) {α : Type} (R : α → List Value → List Nat → Prop) (v : Value) (xs : List α) (G : List Nat) : Prop :=
  ∃ (css : Nat → List Value) (Gs : Nat → List Nat), OwnRow w sz v xs.length (flatN css xs.length) ∧ (∀ i x, xs[i]? = some x → (css i).length = sz ∧ R x (css i) (Gs i)) ∧ G = ownBlk v ++ flatN Gs xs.length
def ORep (w : World) : (t : Ty) → t.den → List Value → List Nat → Prop
  | .int k, x, cs, F => cs = [.int k x] ∧ F = []
  | .bool, x, cs, F => cs = [.bool x] ∧ F = []
  | .str, x, cs, F => cs = [.string x] ∧ F = []
  | .unit, _, cs, F => cs = [] ∧ F = []
  | .pair a b, x, cs, F => ∃ c1 c2 F1 F2, ORep w a x.1 c1 F1 ∧ ORep w b x.2 c2 F2 ∧ cs = c1 ++ c2 ∧ F = F1 ++ F2
  | .slice t, xs, cs, F => ∃ v, cs = [v] ∧ ORow w t.sz (ORep w t) v (show List t.den from xs) F
  | .rose t, r, cs, F => Rose.fold (fun x (ps : List (List Value → List Nat → Prop)) => fun cs F => ∃ c1 F1 v F2, ORep w t x c1 F1 ∧ ORow w (t.sz + 1) (fun p => p) v ps F2 ∧ cs = c1 ++ [v] ∧ F = F1 ++ F2) r cs F
theorem ORow.map {w : World} {sz : Nat} {α β : Type} {R : β → List Value → List Nat → Prop} {f : α → β} {v : Value} {xs : List α} {G : List Nat} : ORow w sz R v (xs.map f) G ↔ ORow w sz (fun x => R (f x)) v xs G := by
  unfold ORow; rw [List.length_map]; constructor
  · rintro ⟨css, Gs, h1, h2, h3⟩
    exact ⟨css, Gs, h1, fun i x hi => h2 i (f x) (by rw [List.getElem?_map, hi]; rfl), h3⟩
  · rintro ⟨css, Gs, h1, h2, h3⟩
    refine ⟨css, Gs, h1, fun i x hi => ?_, h3⟩; rw [List.getElem?_map] at hi; obtain ⟨y, hy, rfl⟩ := Option.map_eq_some_iff.1 hi; exact h2 i y hy
theorem ORep.rose_iff {w : World} {t : Ty} {r : (Ty.rose t).den} {cs : List Value} {F : List Nat} : ORep w (.rose t) r cs F ↔ ∃ c1 c2 F1 F2, ORep w t (Rose.a r) c1 F1 ∧ ORep w (.slice (.rose t)) (Rose.kids r) c2 F2 ∧ cs = c1 ++ c2 ∧ F = F1 ++ F2 := by
  cases r with
  | mk x k =>
    show (Rose.fold (β := List Value → List Nat → Prop) _ (Rose.mk x k)) cs F ↔ _
    rw [Rose.fold_mk]; constructor
    · rintro ⟨c1, F1, v, F2, h1, h2, h3, h4⟩
      exact ⟨c1, _, F1, F2, h1, ⟨v, rfl, (ORow.map (w := w) (sz := t.sz + 1) (R := fun p => p) (f := (ORep w (.rose t) : Rose t.den → List Value → List Nat → Prop)) (v := v) (xs := k) (G := F2)).1 h2⟩, h3, h4⟩
    · rintro ⟨c1, c2, F1, F2, h1, ⟨v, hc, h2⟩, h3, h4⟩
      subst hc
      exact ⟨c1, F1, v, F2, h1, (ORow.map (w := w) (sz := t.sz + 1) (R := fun p => p) (f := (ORep w (.rose t) : Rose t.den → List Value → List Nat → Prop)) (v := v) (xs := k) (G := F2)).2 h2, h3, h4⟩
theorem ORow.imp {w w' : World} {sz : Nat} {α : Type} {R R' : α → List Value → List Nat → Prop} {v : Value} {xs : List α} {G : List Nat} (h : ORow w sz R v xs G) (hb : ∀ b ∈ G, w'.heap[b]? = w.heap[b]?) (hR : ∀ x ∈ xs, ∀ cs F, R x cs F → (∀ b ∈ F, w'.heap[b]? = w.heap[b]?) → R' x cs F) : ORow w' sz R' v xs G := by
  obtain ⟨css, Gs, h1, h2, hF⟩ := h; subst hF; exact ⟨css, Gs, h1.mono (fun k hk => hb k (List.mem_append_left _ (by simp [ownBlk, hk]))), fun i x hi => ⟨(h2 i x hi).1, hR x (List.mem_of_getElem? hi) _ _ (h2 i x hi).2 (fun b hb' => hb b (List.mem_append_right _ (mem_flatN.2 ⟨i, (List.getElem?_eq_some_iff.1 hi).1, hb'⟩)))⟩, rfl⟩
theorem ORow.ltF {w : World} {sz : Nat} {α : Type} {R : α → List Value → List Nat → Prop} {v : Value} {xs : List α} {G : List Nat} (h : ORow w sz R v xs G) (hR : ∀ x ∈ xs, ∀ cs F, R x cs F → ∀ b ∈ F, b < w.heap.size) : ∀ b ∈ G, b < w.heap.size := by
  obtain ⟨css, Gs, h1, h2, hF⟩ := h; subst hF; intro k hk
  rcases List.mem_append.1 hk with hk | hk
  · exact h1.lt k hk
  · obtain ⟨i, hi, hk⟩ := mem_flatN.1 hk
    exact hR _ (List.getElem_mem hi) _ _ (h2 i _ (List.getElem?_eq_getElem hi)).2 k hk

theorem ORep.mono {w w' : World} : ∀ (t : Ty) (x : t.den) (cs : List Value) (F : List Nat), ORep w t x cs F → (∀ b ∈ F, w'.heap[b]? = w.heap[b]?) → ORep w' t x cs F
  | .int _, _, _, _, h, _ => h
  | .bool, _, _, _, h, _ => h
  | .str, _, _, _, h, _ => h
  | .unit, _, _, _, h, _ => h
  | .pair a b, x, cs, F, ⟨c1, c2, F1, F2, h1, h2, hc, hF⟩, hb => by
    subst hF; exact ⟨c1, c2, F1, F2, ORep.mono a _ _ _ h1 (fun b hb' => hb b (List.mem_append_left _ hb')), ORep.mono b _ _ _ h2 (fun b hb' => hb b (List.mem_append_right _ hb')), hc, rfl⟩
  | .slice t, xs, cs, F, ⟨v, hc, hr⟩, hb => ⟨v, hc, hr.imp hb (fun x _ _ _ h hb => ORep.mono t x _ _ h hb)⟩
  | .rose t, r, cs, F, h, hb => by
    revert cs F
    refine Rose.ind (Q := fun r => ∀ cs F, ORep w (.rose t) r cs F → (∀ b ∈ F, w'.heap[b]? = w.heap[b]?) → ORep w' (.rose t) r cs F) (fun x k ih cs F h hb => ?_) r
    obtain ⟨c1, c2, F1, F2, h1, ⟨v, hc, h2⟩, h3, h4⟩ := ORep.rose_iff.1 h; subst h4; exact ORep.rose_iff.2 ⟨c1, c2, F1, F2, ORep.mono t _ _ _ h1 (fun b hb' => hb b (List.mem_append_left _ hb')), ⟨v, hc, h2.imp (fun b hb' => hb b (List.mem_append_right _ hb')) (fun y hy _ _ h hb => ih y hy _ _ h hb)⟩, h3, rfl⟩
theorem ORep.lt {w : World} : ∀ (t : Ty) (x : t.den) (cs : List Value) (F : List Nat), ORep w t x cs F → ∀ b ∈ F, b < w.heap.size
  | .int _, _, _, _, h, b, hb => by rw [h.2] at hb; simp at hb
  | .bool, _, _, _, h, b, hb => by rw [h.2] at hb; simp at hb
  | .str, _, _, _, h, b, hb => by rw [h.2] at hb; simp at hb
  | .unit, _, _, _, h, b, hb => by rw [h.2] at hb; simp at hb
  | .pair a b, x, cs, F, ⟨c1, c2, F1, F2, h1, h2, hc, hF⟩, k, hk => by
    subst hF
    rcases List.mem_append.1 hk with hk | hk
    · exact ORep.lt a _ _ _ h1 k hk
    · exact ORep.lt b _ _ _ h2 k hk
  | .slice t, xs, cs, F, ⟨v, hc, hr⟩, k, hk => hr.ltF (fun x _ _ _ h => ORep.lt t x _ _ h) k hk
  | .rose t, r, cs, F, h, k, hk => by
    revert cs F k
    refine Rose.ind (Q := fun r => ∀ cs F, ORep w (.rose t) r cs F → ∀ k ∈ F, k < w.heap.size) (fun x k ih cs F h => ?_) r
    obtain ⟨c1, c2, F1, F2, h1, ⟨v, hc, h2⟩, h3, h4⟩ := ORep.rose_iff.1 h; subst h4; intro b hb
    rcases List.mem_append.1 hb with hb | hb
    · exact ORep.lt t _ _ _ h1 b hb
    · exact h2.ltF (fun y hy _ _ h => ih y hy _ _ h) b hb
theorem flatN_sub {Fs Gs : Nat → List Nat} : ∀ n, (∀ i, i < n → (Fs i).Sublist (Gs i)) → (flatN Fs n).Sublist (flatN Gs n) := by
  intro n; unfold flatN; intro h
  have : ∀ l : List Nat, (∀ i ∈ l, (Fs i).Sublist (Gs i)) → (l.flatMap Fs).Sublist (l.flatMap Gs) := by
    intro l
    induction l with
    | nil => intro _; exact List.Sublist.refl _
    | cons a l ih =>
      intro hl; simp only [List.flatMap_cons]; exact List.Sublist.append (hl a (by simp)) (ih (fun i hi => hl i (by simp [hi])))
  exact this _ (fun i hi => h i (List.mem_range.1 hi))
theorem ORow.rep {w : World} {sz : Nat} {α : Type} {R R' : α → List Value → List Nat → Prop} {v : Value} {xs : List α} {G : List Nat} (h : ORow w sz R v xs G) (hR : ∀ x ∈ xs, ∀ cs G, R x cs G → ∃ F, R' x cs F ∧ F.Sublist G) :
    ∃ F A c, v = .slice A xs.length c ∧ RowAt w sz R' A c xs F ∧ F.Sublist G := by
  obtain ⟨css, Gs, h1, h2, hG⟩ := h
  have each : ∀ i, ∃ F, ∀ x, xs[i]? = some x → R' x (css i) F ∧ F.Sublist (Gs i) := by
    intro i
    cases hx : xs[i]? with
    | none => exact ⟨[], fun x h => by cases h⟩
    | some x =>
      obtain ⟨F, r, s⟩ := hR x (List.mem_of_getElem? hx) _ _ (h2 i x hx).2; exact ⟨F, fun y h => by cases h; exact ⟨r, s⟩⟩
  have fs : ∀ i x, xs[i]? = some x → R' x (css i) (each i).choose ∧ (each i).choose.Sublist (Gs i) := fun i x h => (each i).choose_spec x h
  have hl : ∀ i, i < xs.length → (css i).length = sz := fun i hi => (h2 i _ (List.getElem?_eq_getElem hi)).1
  subst hG; have sub : (flatN (fun i => (each i).choose) xs.length).Sublist (flatN Gs xs.length) := flatN_sub _ (fun i hi => (fs i _ (List.getElem?_eq_getElem hi)).2)
  rcases h1.2 with ⟨hL, hn⟩ | ⟨g, cap, cur, e, fz, hL, hg, hfz, hle, hcm, hcs, htk⟩
  · have hx : xs = [] := List.eq_nil_of_length_eq_zero hn
    refine ⟨[], none, 0, by rw [hL, hn], ⟨Nat.le_of_eq hn, by simp [maxLen], (fun _ => ⟨hx, rfl, rfl⟩), (fun ad had => by cases had), (fun ad had => by cases had)⟩, List.nil_sublist _⟩
  · refine ⟨(if xs.isEmpty then [] else [g]) ++ flatN (fun i => (each i).choose) xs.length, some ⟨g, 0, none⟩, cap, by rw [hL], ⟨hle, hcm, (fun hn => by cases hn), (fun ad had hne => ?_), (fun ad had => ?_)⟩, ?_⟩
    · cases had
      exact (Array.getElem?_eq_some_iff.1 hg).1
    · cases had
      refine ⟨css, fun i => (each i).choose, rfl, fun i x hx => ?_⟩; have hi : i < xs.length := (List.getElem?_eq_some_iff.1 hx).1; refine ⟨fun j u hj => ?_, hl i hi, (fs i x hx).1⟩
      have hjl : j < sz := by rw [← hl i hi]; exact (List.getElem?_eq_some_iff.1 hj).1
      rw [add_add]; refine OwnRow.cells h1 (by rw [hL]; rfl) _ _ ?_; rw [flatN_at _ hl i j hi hjl]; exact hj
    · refine List.Sublist.append ?_ sub
      rw [hL]
      show List.Sublist _ [g]
      split
      · exact List.nil_sublist _
      · exact List.Sublist.refl _
theorem ORep.rep {w : World} : ∀ (t : Ty) (x : t.den) (cs : List Value) (G : List Nat), ORep w t x cs G → ∃ F, Rep w t x cs F ∧ F.Sublist G
  | .int _, _, _, _, h => ⟨_, h, List.Sublist.refl _⟩
  | .bool, _, _, _, h => ⟨_, h, List.Sublist.refl _⟩
  | .str, _, _, _, h => ⟨_, h, List.Sublist.refl _⟩
  | .unit, _, _, _, h => ⟨_, h, List.Sublist.refl _⟩
  | .pair a b, x, cs, G, ⟨c1, c2, G1, G2, h1, h2, hc, hG⟩ => by
    obtain ⟨F1, r1, s1⟩ := ORep.rep a _ _ _ h1; obtain ⟨F2, r2, s2⟩ := ORep.rep b _ _ _ h2; subst hG; exact ⟨F1 ++ F2, ⟨c1, c2, F1, F2, r1, r2, hc, rfl⟩, s1.append s2⟩
  | .slice t, xs, cs, G, ⟨v, hc, hr⟩ => by
    obtain ⟨F, A, c, e1, e2, e3⟩ := hr.rep (R' := Rep w t) (fun x _ _ _ h => ORep.rep t x _ _ h); exact ⟨F, ⟨A, c, by rw [hc, e1], e2⟩, e3⟩
  | .rose t, r, cs, G, h => by
    revert cs G
    refine Rose.ind (Q := fun r => ∀ cs G, ORep w (.rose t) r cs G → ∃ F, Rep w (.rose t) r cs F ∧ F.Sublist G) (fun x k ih cs G h => ?_) r
    obtain ⟨c1, c2, G1, G2, h1, ⟨v, hc, h2⟩, h3, h4⟩ := ORep.rose_iff.1 h; obtain ⟨F1, r1, s1⟩ := ORep.rep t _ _ _ h1; obtain ⟨F2, A, c, e1, e2, e3⟩ := h2.rep (R' := Rep w (.rose t)) (fun y hy _ _ h => ih y hy _ _ h); subst h4; exact ⟨F1 ++ F2, Rep.rose_iff.2 ⟨c1, c2, F1, F2, r1, ⟨A, c, by rw [hc, e1], e2⟩, h3, rfl⟩, s1.append e3⟩
theorem ORep.flat {w : World} : ∀ (t : Ty) (x : t.den) (cs : List Value) (F : List Nat), t.flat = true → Rep w t x cs F → ORep w t x cs F
  | .int _, _, _, _, _, h => h
  | .bool, _, _, _, _, h => h
  | .str, _, _, _, _, h => h
  | .unit, _, _, _, _, h => h
  | .pair a b, x, cs, F, hf, ⟨c1, c2, F1, F2, h1, h2, hc, hF⟩ => by
    have hf' : yes2 a.flat b.flat = true := hf
    cases ha : a.flat with
    | false => rw [ha] at hf'; cases hf'
    | true =>
      rw [ha] at hf'; exact ⟨c1, c2, F1, F2, ORep.flat a _ _ _ ha h1, ORep.flat b _ _ _ hf' h2, hc, hF⟩
  | .slice _, _, _, _, hf, _ => by cases hf
  | .rose _, _, _, _, hf, _ => by cases hf
theorem ORep.unflat {w : World} : ∀ (t : Ty) (x : t.den) (cs : List Value) (F : List Nat), t.flat = true → ORep w t x cs F → Rep w t x cs F
  | .int _, _, _, _, _, h => h
  | .bool, _, _, _, _, h => h
  | .str, _, _, _, _, h => h
  | .unit, _, _, _, _, h => h
  | .pair a b, x, cs, F, hf, ⟨c1, c2, F1, F2, h1, h2, hc, hF⟩ => by
    have hf' : yes2 a.flat b.flat = true := hf
    cases ha : a.flat with
    | false => rw [ha] at hf'; cases hf'
    | true =>
      rw [ha] at hf'; exact ⟨c1, c2, F1, F2, ORep.unflat a _ _ _ ha h1, ORep.unflat b _ _ _ hf' h2, hc, hF⟩
  | .slice _, _, _, _, hf, _ => by cases hf
  | .rose _, _, _, _, hf, _ => by cases hf
def ERep (d : Bool) (w : World) (t : Ty) (x : t.den) (cs : List Value) (F : List Nat) : Prop := match d with
  | true => ORep w t x cs F
  | false => Rep w t x cs F
theorem ERep.mono {d : Bool} {w w' : World} {t : Ty} {x : t.den} {cs : List Value} {F : List Nat} (h : ERep d w t x cs F) (hb : ∀ b ∈ F, w'.heap[b]? = w.heap[b]?) : ERep d w' t x cs F := by
  cases d with
  | true => exact ORep.mono _ _ _ _ h hb
  | false => exact Rep.mono _ _ _ _ h hb
theorem ERep.lt {d : Bool} {w : World} {t : Ty} {x : t.den} {cs : List Value} {F : List Nat} (h : ERep d w t x cs F) : ∀ b ∈ F, b < w.heap.size := by
  cases d with
  | true => exact ORep.lt _ _ _ _ h
  | false => exact Rep.lt _ _ _ _ h
theorem ERep.rep {d : Bool} {w : World} {t : Ty} {x : t.den} {cs : List Value} {G : List Nat} (h : ERep d w t x cs G) : ∃ F, Rep w t x cs F ∧ F.Sublist G := by
  cases d with
  | true => exact ORep.rep _ _ _ _ h
  | false => exact ⟨G, h, List.Sublist.refl _⟩
theorem ERep.flat {d : Bool} {w : World} {t : Ty} {x : t.den} {cs : List Value} {F : List Nat} (hf : t.flat = true) (h : Rep w t x cs F) : ERep d w t x cs F := by
  cases d with
  | true => exact ORep.flat _ _ _ _ hf h
  | false => exact h
theorem ERep.unflat {d : Bool} {w : World} {t : Ty} {x : t.den} {cs : List Value} {F : List Nat} (hf : t.flat = true) (h : ERep d w t x cs F) : Rep w t x cs F := by
  cases d with
  | true => exact ORep.unflat _ _ _ _ hf h
  | false => exact h
theorem elems_rep {d : Bool} {w : World} {t : Ty} {xs : List t.den} {css : Nat → List Value} {Gs : Nat → List Nat} (h : ∀ i x, xs[i]? = some x → (css i).length = t.sz ∧ ERep d w t x (css i) (Gs i)) :
    ∃ Fs : Nat → List Nat, (∀ i x, xs[i]? = some x → (css i).length = t.sz ∧ Rep w t x (css i) (Fs i)) ∧ (flatN Fs xs.length).Sublist (flatN Gs xs.length) ∧ (∀ i, (Fs i).Sublist (Gs i)) ∧ (d = false → ∀ i, i < xs.length → Fs i = Gs i) := by
  cases d with
  | false => exact ⟨Gs, h, List.Sublist.refl _, fun i => List.Sublist.refl _, fun _ _ _ => rfl⟩
  | true =>
    have each : ∀ i, ∃ F : List Nat, F.Sublist (Gs i) ∧ ∀ x, xs[i]? = some x → Rep w t x (css i) F := by
      intro i
      cases hx : xs[i]? with
      | none => exact ⟨[], List.nil_sublist _, fun x h => by cases h⟩
      | some x =>
        obtain ⟨F, r, s⟩ := ERep.rep (h i x hx).2; exact ⟨F, s, fun y h => by cases h; exact r⟩
    refine ⟨fun i => (each i).choose, fun i x hx => ⟨(h i x hx).1, (each i).choose_spec.2 x hx⟩, flatN_sub _ (fun i _ => (each i).choose_spec.1), fun i => (each i).choose_spec.1, fun h => by cases h⟩

end Go.Proofs.GR

namespace Go.Proofs.GR

def WinOf (lv : Value) (sz len lo n : Nat) (v : Value) : Prop :=
  lo + n ≤ len ∧ ∃ A c, v = .slice A n c ∧ n ≤ c ∧ c ≤ maxLen ∧ (A = none → c = 0) ∧
    (0 < n → ∃ g cap, lv = .slice (some ⟨g, 0, none⟩) len cap ∧ A = some ((⟨g, 0, none⟩ : Addr).add (lo * sz)) ∧ lo + c ≤ cap)

def PtrOf (lv : Value) (off : Nat) (v : Value) : Prop :=
  ∃ b, lv = .pointer (some ⟨b, 0, none⟩) ∧ v = .pointer (some ((⟨b, 0, none⟩ : Addr).add off))

def RPtr (w : World) (own : Nat → Prop) (t : Ty) (x : t.den) (v : Value) : Prop :=
  ∃ ad cs F, v = .pointer (some ad) ∧ CellsAt w ad cs ∧ Rep w t x cs F ∧ (cs ≠ [] → ¬ own ad.block) ∧ ∀ b ∈ F, ¬ own b

def AObj.isHole : AObj → Bool
  | .hole => true
  | _ => false
def Live (objs : List AObj) (o : Nat) : Prop := ∃ x, objs[o]? = some x ∧ x.isHole = false
theorem Live.lt {objs : List AObj} {o : Nat} (h : Live objs o) : o < objs.length := by
  obtain ⟨x, hx, _⟩ := h; exact (List.getElem?_eq_some_iff.1 hx).1
theorem Live.of {objs : List AObj} {o : Nat} {x : AObj} (h : objs[o]? = some x) (hx : x.isHole = false) : Live objs o := ⟨x, h, hx⟩

def IsRow (objs : List AObj) (o : Nat) (t : Ty) (xs : List t.den) (d : Bool) : Prop := objs[o]? = some (.row t xs d) ∨ (d = true ∧ ∃ i off m, objs[o]? = some (.lent t xs i off m))

theorem IsRow.of_row {objs : List AObj} {o : Nat} {t t' : Ty} {xs : List t.den} {xs' : List t'.den} {d d' : Bool} (h : IsRow objs o t' xs' d') (hq : objs[o]? = some (.row t xs d)) : objs[o]? = some (.row t' xs' d') := by
  rcases h with h | ⟨_, _, _, _, h⟩
  · exact h
  · rw [hq] at h; cases h

def CellRep (w : World) (objs : List AObj) (L : Nat → Value) (own : Nat → Prop) : Cell → Value → Prop
  | .nix, _ => True
  | .dat t x, v => ∃ F, Rep w t x [v] F ∧ ∀ b ∈ F, ¬ own b
  | .own o, v => Live objs o ∧ ∀ t xs d, IsRow objs o t xs d → v = L o
  | .win o lo n, v => Live objs o ∧ ∀ t xs d, IsRow objs o t xs d → WinOf (L o) t.sz xs.length lo n v
  | .ptr o off, v => Live objs o ∧ ∀ t cs, objs[o]? = some (.box t cs) → PtrOf (L o) off v
  | .eptr o i off, v => Live objs o ∧ ∀ t xs d, IsRow objs o t xs d → i < xs.length ∧ ∃ g c, L o = .slice (some ⟨g, 0, none⟩) xs.length c ∧ v = .pointer (some ((⟨g, 0, none⟩ : Addr).add (i * t.sz + off)))
  | .rptr t x, v => RPtr w own t x v
  | .fnL f caps, v => ∃ vs : Array Value, v = .func (.func f) #[] vs ∧ vs.size = caps.length ∧ ∀ (i : Nat) p u, caps[i]? = some p → vs[i]? = some u → u.oneCell' = true ∧ Live objs p.1 ∧ ∀ t cs, objs[p.1]? = some (.box t cs) → PtrOf (L p.1) p.2 u
  | .fn f caps, v => ∃ vs : Array Value, v = .func (.func f) #[] vs ∧ vs.size = caps.length ∧ ∀ (i : Nat) p u, caps[i]? = some p → vs[i]? = some u → RPtr w own p.1 p.2 u
  | .nilS, v => v = .slice none 0 0
  | .nilP, v => v = .pointer none

def HRep (w : World) : (t : Ty) → t.den → List Value → List Nat → Nat → Value → Prop
  | .slice _, _, cs, G, off, v => off = 0 ∧ cs = [v] ∧ G = []
  | .pair a b, x, cs, G, off, v => ¬ (off = 0 ∧ a.sz + b.sz = 1) ∧ ∃ c1 c2 G1 G2, cs = c1 ++ c2 ∧ G = G1 ++ G2 ∧
      ((off < a.sz ∧ HRep w a x.1 c1 G1 off v ∧ ORep w b x.2 c2 G2) ∨ (a.sz ≤ off ∧ ORep w a x.1 c1 G1 ∧ HRep w b x.2 c2 G2 (off - a.sz) v))
  | .rose t, x, cs, G, off, v => ¬ (off = 0 ∧ t.sz = 0) ∧ ∃ c1 c2 G1 G2, cs = c1 ++ c2 ∧ G = G1 ++ G2 ∧
      ((off < t.sz ∧ HRep w t (Rose.a x) c1 G1 off v ∧ ORep w (.slice (.rose t)) (Rose.kids x) c2 G2) ∨ (off = t.sz ∧ ORep w t (Rose.a x) c1 G1 ∧ c2 = [v] ∧ G2 = []))
  | _, _, _, _, _, _ => False
theorem HRep.mono {w w' : World} : ∀ (t : Ty) (x : t.den) (cs : List Value) (G : List Nat) (off : Nat) (v : Value), HRep w t x cs G off v → (∀ b ∈ G, w'.heap[b]? = w.heap[b]?) → HRep w' t x cs G off v
  | .slice _, _, _, _, _, _, h, _ => h
  | .pair a b, x, cs, G, off, v, ⟨hno, c1, c2, G1, G2, hc, hG, h⟩, hb => by
    subst hG; refine ⟨hno, c1, c2, G1, G2, hc, rfl, ?_⟩
    rcases h with ⟨h1, h2, h3⟩ | ⟨h1, h2, h3⟩
    · exact .inl ⟨h1, HRep.mono a _ _ _ _ _ h2 (fun b hb' => hb b (List.mem_append_left _ hb')), ORep.mono b _ _ _ h3 (fun b hb' => hb b (List.mem_append_right _ hb'))⟩
    · exact .inr ⟨h1, ORep.mono a _ _ _ h2 (fun b hb' => hb b (List.mem_append_left _ hb')), HRep.mono b _ _ _ _ _ h3 (fun b hb' => hb b (List.mem_append_right _ hb'))⟩
  | .int _, _, _, _, _, _, h, _ => h.elim
  | .bool, _, _, _, _, _, h, _ => h.elim
  | .str, _, _, _, _, _, h, _ => h.elim
  | .unit, _, _, _, _, _, h, _ => h.elim
  | .rose t, x, cs, G, off, v, ⟨hno, c1, c2, G1, G2, hc, hG, h⟩, hb => by
    subst hG; refine ⟨hno, c1, c2, G1, G2, hc, rfl, ?_⟩
    rcases h with ⟨h1, h2, h3⟩ | ⟨h1, h2, h3, h4⟩
    · exact .inl ⟨h1, HRep.mono t _ _ _ _ _ h2 (fun b hb' => hb b (List.mem_append_left _ hb')), ORep.mono (.slice (.rose t)) _ _ _ h3 (fun b hb' => hb b (List.mem_append_right _ hb'))⟩
    · exact .inr ⟨h1, ORep.mono t _ _ _ h2 (fun b hb' => hb b (List.mem_append_left _ hb')), h3, h4⟩

def ObjRep (w : World) (objs : List AObj) (L : Nat → Value) (own : Nat → Prop) (o : Nat) : AObj → List Nat → Prop
  | .dead, B => B = []
  | .hole, B => B = []
  | .box t cs, B => ∃ b cells, L o = .pointer (some ⟨b, 0, none⟩) ∧ w.heap[b]? = some (.cells cells t (0, 0)) ∧ cells.size = cs.length ∧ B = [b] ∧
      ∀ (i : Nat) c v, cs[i]? = some c → cells[i]? = some v → v.oneCell' = true ∧ CellRep w objs L own c v
  | .row t xs d, B => ∃ (css : Nat → List Value) (Fs : Nat → List Nat), OwnRow w t.sz (L o) xs.length (flatN css xs.length) ∧
      (∀ i x, xs[i]? = some x → (css i).length = t.sz ∧ ERep d w t x (css i) (Fs i)) ∧
      (if d then B = ownBlk (L o) ++ flatN Fs xs.length else B = ownBlk (L o) ∧ ∀ b ∈ flatN Fs xs.length, ¬ own b)
  | .lent t xs i off m, B => Live objs m ∧ ∃ (css : Nat → List Value) (Gs : Nat → List Nat), OwnRow w t.sz (L o) xs.length (flatN css xs.length) ∧ (∀ j x, xs[j]? = some x → (css j).length = t.sz) ∧ i < xs.length ∧
      (∀ j x, j ≠ i → xs[j]? = some x → ORep w t x (css j) (Gs j)) ∧ HRep w t (xs.getD i t.dflt) (css i) (Gs i) off (L m) ∧ B = ownBlk (L o) ++ flatN Gs xs.length

def Own (n : Nat) (Bs : Nat → List Nat) (b : Nat) : Prop := b ∈ flatN Bs n

structure Start where
  w0 : World
  may : Nat → Prop
  see : Nat → Prop
  sees : ∀ b, may b → see b
  base : List Value
  G : List (Nat × (Option Obj → Prop))
  gok : ∀ p ∈ G, ¬ may p.1 ∧ p.1 < w0.heap.size ∧ p.2 w0.heap[p.1]?

def Unseen (K : Start) (b : Nat) : Prop := b < K.w0.heap.size ∧ ¬ K.see b

def Forb (K : Start) (n : Nat) (Bs : Nat → List Nat) (b : Nat) : Prop := Own n Bs b ∨ Unseen K b

structure RelW (K : Start) (objs : List AObj) (L : Nat → Value) (Bs : Nat → List Nat) (w : World) : Prop where
  obj : ∀ o x, objs[o]? = some x → ObjRep w objs L (Forb K objs.length Bs) o x (Bs o)
  nodup : (flatN Bs objs.length).Nodup
  lt : ∀ b, Own objs.length Bs b → b < w.heap.size

def ValRep (w : World) (objs : List AObj) (L : Nat → Value) (own : Nat → Prop) : Val → Value → Prop
  | .one c, v => v.oneCell' = true ∧ CellRep w objs L own c v
  | .agg cs, v => ∃ vs : Array Value, v = .agg vs ∧ vs.size = cs.length ∧ ∀ (i : Nat) c u, cs[i]? = some c → vs[i]? = some u → u.oneCell' = true ∧ CellRep w objs L own c u

def SlotRep (w : World) (objs : List AObj) (L : Nat → Value) (own : Nat → Prop) : Slot → Value → Prop
  | .nix, _ => True
  | .val x, v => ValRep w objs L own x v
  | .tup xs, v => ∃ vs : Array Value, v = .tuple vs ∧ vs.size = xs.length ∧ ∀ (i : Nat) x u, xs[i]? = some x → vs[i]? = some u → ValRep w objs L own x u

structure Within (K : Start) (own : Nat → Prop) (w : World) : Prop where
  os : w.os = K.w0.os
  tape : w.tape = K.w0.tape
  output : w.output = K.w0.output
  size : K.w0.heap.size ≤ w.heap.size
  block : ∀ b, b < K.w0.heap.size → ¬ K.may b → w.heap[b]? = K.w0.heap[b]?
  own : ∀ b, own b → K.may b ∨ K.w0.heap.size ≤ b

structure Rel (K : Start) (S : St) (a : Act) (w : World) : Prop where
  ex : ∃ L Bs, RelW K S.objs L Bs w ∧ (∀ (i : Nat) s v, S.slots[i]? = some s → a.tmps[i]? = some v → SlotRep w S.objs L (Forb K S.objs.length Bs) s v) ∧ (∀ (i : Nat) u, K.base[i]? = some u → Live S.objs i ∧ L i = u) ∧ Within K (Own S.objs.length Bs) w
  size : a.tmps.size = S.slots.length
  defers : a.defers = []

structure Turn (own : Nat → Prop) (w w' : World) : Prop where
  os : w'.os = w.os
  tape : w'.tape = w.tape
  output : w'.output = w.output
  size : w.heap.size ≤ w'.heap.size
  block : ∀ b, b < w.heap.size → ¬ own b → w'.heap[b]? = w.heap[b]?

theorem RPtr.mono {w w' : World} {own own' : Nat → Prop} {t : Ty} {x : t.den} {v : Value} (h : RPtr w own t x v) (hw : Turn own w w') (ho : ∀ b, own' b → own b ∨ w.heap.size ≤ b) : RPtr w' own' t x v := by
  obtain ⟨ad, cs, F, hv, hc, hr, hn, hF⟩ := h
  have key : ∀ b ∈ F, w'.heap[b]? = w.heap[b]? := fun b hb => hw.block b (Rep.lt _ _ _ _ hr b hb) (hF b hb)
  have hlt : cs ≠ [] → ad.block < w.heap.size := by
    intro hne
    cases cs with
    | nil => exact absurd rfl hne
    | cons u us =>
      have := hc 0 u rfl; have := World.block_lt_of_cell? w _ this
      rwa [add_block] at this
  refine ⟨ad, cs, F, hv, hc.mono (fun hne => hw.block _ (hlt hne) (hn hne)), Rep.mono _ _ _ _ hr key, fun hne hown => ?_, fun b hb hown => ?_⟩
  · rcases ho _ hown with h1 | h1
    · exact hn hne h1
    · have := hlt hne; omega
  · rcases ho _ hown with h1 | h1
    · exact hF b hb h1
    · have := Rep.lt _ _ _ _ hr b hb; omega

theorem CellRep.mono {w w' : World} {objs : List AObj} {L : Nat → Value} {own own' : Nat → Prop} {c : Cell} {v : Value} (h : CellRep w objs L own c v) (hw : Turn own w w')
    (ho : ∀ b, own' b → own b ∨ w.heap.size ≤ b) : CellRep w' objs L own' c v := by
  cases c with
  | dat t x =>
    obtain ⟨F, hr, hF⟩ := h; refine ⟨F, Rep.mono _ _ _ _ hr (fun b hb => hw.block b (Rep.lt _ _ _ _ hr b hb) (hF b hb)), fun b hb hown => ?_⟩
    rcases ho _ hown with h1 | h1
    · exact hF b hb h1
    · have := Rep.lt _ _ _ _ hr b hb; omega
  | rptr t x => exact RPtr.mono h hw ho
  | fn f caps =>
    obtain ⟨vs, hv, hs, hall⟩ := h; exact ⟨vs, hv, hs, fun i p u hp hu => (hall i p u hp hu).mono hw ho⟩
  | nix => trivial
  | own o => exact h
  | win o lo n => exact h
  | ptr o off => exact h
  | eptr o i off => exact h
  | fnL f caps => exact h
  | nilS => exact h
  | nilP => exact h

structure Keeps (objs objs' : List AObj) (L L' : Nat → Value) : Prop where
  live : ∀ o, Live objs o → Live objs' o
  loc : ∀ o, Live objs o → L' o = L o
  row : ∀ o t xs d, Live objs o → IsRow objs' o t xs d → ∃ xs0 d0, IsRow objs o t xs0 d0 ∧ xs0.length = xs.length
  box : ∀ o t cs, Live objs o → objs'[o]? = some (.box t cs) → ∃ cs0, objs[o]? = some (.box t cs0)

theorem Keeps.refl (objs : List AObj) (L : Nat → Value) : Keeps objs objs L L :=
  ⟨fun _ h => h, fun _ _ => rfl, fun _ _ xs d _ h => ⟨xs, d, h, rfl⟩, fun _ _ cs _ h => ⟨cs, h⟩⟩

theorem CellRep.keeps {w : World} {objs objs' : List AObj} {L L' : Nat → Value} {own : Nat → Prop} {c : Cell} {v : Value} (h : CellRep w objs L own c v) (hk : Keeps objs objs' L L') : CellRep w objs' L' own c v := by
  cases c with
  | own o =>
    obtain ⟨hlt, hall⟩ := h; refine ⟨hk.live _ hlt, fun t xs d hx => ?_⟩; obtain ⟨xs0, d0, h0, _⟩ := hk.row o t xs d hlt hx; rw [hk.loc o hlt]; exact hall _ _ _ h0
  | win o lo n =>
    obtain ⟨hlt, hall⟩ := h; refine ⟨hk.live _ hlt, fun t xs d hx => ?_⟩; obtain ⟨xs0, d0, h0, hl⟩ := hk.row o t xs d hlt hx; rw [hk.loc o hlt, ← hl]; exact hall _ _ _ h0
  | ptr o off =>
    obtain ⟨hlt, hall⟩ := h; refine ⟨hk.live _ hlt, fun t cs hx => ?_⟩; obtain ⟨cs0, h0⟩ := hk.box o t cs hlt hx; rw [hk.loc o hlt]; exact hall _ _ h0
  | eptr o i off =>
    obtain ⟨hlt, hall⟩ := h; refine ⟨hk.live _ hlt, fun t xs d hx => ?_⟩; obtain ⟨xs0, d0, h0, hl⟩ := hk.row o t xs d hlt hx; rw [hk.loc o hlt, ← hl]; exact hall _ _ _ h0
  | fnL f caps =>
    obtain ⟨vs, hv, hs, hall⟩ := h; refine ⟨vs, hv, hs, fun i p u hp hu => ?_⟩; obtain ⟨h1c, hlt, h2⟩ := hall i p u hp hu; refine ⟨h1c, hk.live _ hlt, fun t cs hx => ?_⟩; obtain ⟨cs0, h0⟩ := hk.box p.1 t cs hlt hx; rw [hk.loc _ hlt]; exact h2 _ _ h0
  | nix => trivial
  | dat t x => exact h
  | rptr t x => exact h
  | fn f caps => exact h
  | nilS => exact h
  | nilP => exact h

theorem ValRep.imp {w w' : World} {objs objs' : List AObj} {L L' : Nat → Value} {own own' : Nat → Prop} {x : Val} {v : Value} (h : ValRep w objs L own x v)
    (hc : ∀ c u, CellRep w objs L own c u → CellRep w' objs' L' own' c u) : ValRep w' objs' L' own' x v := by
  cases x with
  | one c => exact ⟨h.1, hc _ _ h.2⟩
  | agg cs =>
    obtain ⟨vs, hv, hs, hall⟩ := h; exact ⟨vs, hv, hs, fun i c u h1 h2 => ⟨(hall i c u h1 h2).1, hc _ _ (hall i c u h1 h2).2⟩⟩

theorem SlotRep.imp {w w' : World} {objs objs' : List AObj} {L L' : Nat → Value} {own own' : Nat → Prop} {s : Slot} {v : Value} (h : SlotRep w objs L own s v)
    (hc : ∀ c u, CellRep w objs L own c u → CellRep w' objs' L' own' c u) : SlotRep w' objs' L' own' s v := by
  cases s with
  | nix => trivial
  | val x => exact ValRep.imp h hc
  | tup xs =>
    obtain ⟨vs, hv, hs, hall⟩ := h; exact ⟨vs, hv, hs, fun i x u h1 h2 => (hall i x u h1 h2).imp hc⟩

theorem ObjRep.keep {w w' : World} {objs objs' : List AObj} {L L' : Nat → Value} {own own' : Nat → Prop} {o : Nat} {x : AObj} {B : List Nat} (h : ObjRep w objs L own o x B)
    (hB : ∀ b ∈ B, w'.heap[b]? = w.heap[b]?) (hL : L' o = L o) (hw : Turn own w w') (ho : ∀ b, own' b → own b ∨ w.heap.size ≤ b)
    (hc : ∀ c u, CellRep w objs L own c u → CellRep w' objs' L' own' c u) (hk : ∀ m, Live objs m → Live objs' m ∧ L' m = L m) : ObjRep w' objs' L' own' o x B := by
  cases x with
  | dead => exact h
  | hole => exact h
  | lent t xs i off m =>
    obtain ⟨hm, css, Gs, h1, h2, h3, h4, h5, h6⟩ := h; obtain ⟨hm', hLm⟩ := hk m hm
    have hF : ∀ j, j < xs.length → ∀ b ∈ Gs j, w'.heap[b]? = w.heap[b]? := fun j hj b hb => hB b (by rw [h6]; exact List.mem_append_right _ (mem_flatN.2 ⟨j, hj, hb⟩))
    refine ⟨hm', css, Gs, ?_, h2, h3, fun j y hj hy => ORep.mono _ _ _ _ (h4 j y hj hy) (hF j (List.getElem?_eq_some_iff.1 hy).1), ?_, by rw [hL]; exact h6⟩
    · rw [hL]
      exact h1.mono (fun k hk' => hB k (by rw [h6]; exact List.mem_append_left _ (by simp [ownBlk, hk'])))
    · rw [hLm]
      exact HRep.mono _ _ _ _ _ _ h5 (hF i h3)
  | box t cs =>
    obtain ⟨b, cells, h1, h2, h3, h4, h5⟩ := h; refine ⟨b, cells, by rw [hL]; exact h1, by rw [hB b (by rw [h4]; simp)]; exact h2, h3, h4, fun i c v hi hv => ⟨(h5 i c v hi hv).1, hc _ _ (h5 i c v hi hv).2⟩⟩
  | row t xs d =>
    obtain ⟨css, Fs, h1, h2, h3⟩ := h
    have hblk : ∀ k, (L o).ownBlock = some k → w'.heap[k]? = w.heap[k]? := by
      intro k hk; apply hB; cases d <;> simp only [Bool.false_eq_true, if_false, if_true] at h3
      · rw [h3.1]; simp [ownBlk, hk]
      · rw [h3]; simp [ownBlk, hk]
    have hF : ∀ i y, xs[i]? = some y → ∀ b ∈ Fs i, w'.heap[b]? = w.heap[b]? := by
      intro i y hy b hb; have hil : i < xs.length := (List.getElem?_eq_some_iff.1 hy).1; have hin : b ∈ flatN Fs xs.length := mem_flatN.2 ⟨i, hil, hb⟩; cases d <;> simp only [Bool.false_eq_true, if_false, if_true] at h3
      · exact hw.block b (ERep.lt (h2 i y hy).2 b hb) (h3.2 b hin)
      · exact hB b (by rw [h3]; exact List.mem_append_right _ hin)
    refine ⟨css, Fs, ?_, fun i y hy => ⟨(h2 i y hy).1, ERep.mono (h2 i y hy).2 (hF i y hy)⟩, ?_⟩
    · rw [hL]
      exact h1.mono hblk
    · rw [hL]
      cases d <;> simp only [Bool.false_eq_true, if_false, if_true] at h3 ⊢
      · refine ⟨h3.1, fun b hb hown => ?_⟩
        rcases ho _ hown with h4 | h4
        · exact h3.2 b hb h4
        · obtain ⟨i, hi, hbi⟩ := mem_flatN.1 hb
          have := ERep.lt (h2 i _ (List.getElem?_eq_getElem hi)).2 b hbi; omega
      · exact h3

theorem Turn.refl (own : Nat → Prop) (w : World) : Turn own w w := ⟨rfl, rfl, rfl, Nat.le_refl _, fun _ _ _ => rfl⟩
theorem Turn.drew (own : Nat → Prop) (w : World) : Turn own w w.drew := ⟨rfl, rfl, rfl, Nat.le_refl _, fun _ _ _ => rfl⟩
theorem Turn.wide {own own' : Nat → Prop} {w w' : World} (h : Turn own w w') (ho : ∀ b, own b → own' b) : Turn own' w w' := ⟨h.os, h.tape, h.output, h.size, fun b hb hn => h.block b hb (fun hc => hn (ho b hc))⟩
theorem Turn.forb {K : Start} {n : Nat} {Bs : Nat → List Nat} {w w' : World} (h : Turn (Own n Bs) w w') : Turn (Forb K n Bs) w w' := h.wide (fun _ hb => .inl hb)
theorem Forb.up {K : Start} {n n' : Nat} {Bs Bs' : Nat → List Nat} {m : Nat} (h : ∀ b, Own n' Bs' b → Own n Bs b ∨ m ≤ b) : ∀ b, Forb K n' Bs' b → Forb K n Bs b ∨ m ≤ b := by
  intro b hb
  rcases hb with hb | hb
  · exact (h b hb).imp .inl id
  · exact .inl (.inr hb)
theorem Within.turn {K : Start} {own own' : Nat → Prop} {w w' : World} (h : Within K own w) (ht : Turn own w w') (ho : ∀ b, own' b → own b ∨ w.heap.size ≤ b) : Within K own' w' :=
  ⟨ht.os.trans h.os, ht.tape.trans h.tape, ht.output.trans h.output, Nat.le_trans h.size ht.size,
    fun b hb hm => (ht.block b (Nat.lt_of_lt_of_le hb h.size) (fun hown => by rcases h.own b hown with h1 | h1; exact hm h1; omega)).trans (h.block b hb hm),
    fun b hb => by rcases ho b hb with h1 | h1; exact h.own b h1; exact .inr (Nat.le_trans h.size h1)⟩

end Go.Proofs.GR

namespace Go.Proofs.GR

structure RelX (K : Start) (S : St) (a : Act) (w : World) (L : Nat → Value) (Bs : Nat → List Nat) : Prop where
  objs : RelW K S.objs L Bs w
  slots : ∀ (i : Nat) s v, S.slots[i]? = some s → a.tmps[i]? = some v → SlotRep w S.objs L (Forb K S.objs.length Bs) s v
  base : ∀ (i : Nat) u, K.base[i]? = some u → Live S.objs i ∧ L i = u
  within : Within K (Own S.objs.length Bs) w
  size : a.tmps.size = S.slots.length
  defers : a.defers = []

theorem RelX.rel {K : Start} {S : St} {a : Act} {w : World} {L : Nat → Value} {Bs : Nat → List Nat} (h : RelX K S a w L Bs) : Rel K S a w :=
  ⟨⟨L, Bs, h.objs, h.slots, h.base, h.within⟩, h.size, h.defers⟩
theorem Rel.relX {K : Start} {S : St} {a : Act} {w : World} (h : Rel K S a w) : ∃ L Bs, RelX K S a w L Bs := by
  obtain ⟨⟨L, Bs, h1, h2, hb, h3⟩, h4, h5⟩ := h; exact ⟨L, Bs, h1, h2, hb, h3, h4, h5⟩

section
variable {K : Start} {S : St} {a : Act} {w : World} {L : Nat → Value} {Bs : Nat → List Nat}

theorem put_objs (S : St) (d : Option Tmp) (s : Slot) : (S.put d s).objs = S.objs := by cases d <;> rfl

theorem RelX.put (h : RelX K S a w L Bs) (d : Option Tmp) {s : Slot} {v : Value} (hs : SlotRep w S.objs L (Forb K S.objs.length Bs) s v) : RelX K (S.put d s) (a.put d v) w L Bs := by
  cases d with
  | none => exact h
  | some d =>
    refine ⟨h.objs, fun i s' v' h1 h2 => ?_, by rw [put_objs]; exact h.base, h.within, ?_, h.defers⟩
    · simp only [St.put, lset_eq] at h1
      simp only [Act.put] at h2
      by_cases hid : d = i
      · subst hid
        rw [List.getElem?_set] at h1; rw [Array.getElem?_setIfInBounds] at h2; simp only [if_true] at h1 h2; split at h1
        · split at h2
          · cases h1; cases h2; exact hs
          · cases h2
        · cases h1
      · rw [List.getElem?_set_ne hid] at h1
        rw [Array.getElem?_setIfInBounds_ne hid] at h2; exact h.slots i s' v' h1 h2
    · simp [Act.put, St.put, lset_eq, h.size]

theorem RelX.drew (h : RelX K S a w L Bs) : RelX K S a w.drew L Bs := by
  have ht := Turn.drew (Own S.objs.length Bs) w
  have ho : ∀ b, Own S.objs.length Bs b → Own S.objs.length Bs b ∨ w.heap.size ≤ b := fun _ hb => .inl hb
  have hf := Forb.up (K := K) ho
  refine ⟨⟨fun o x hx => (h.objs.obj o x hx).keep (fun _ _ => rfl) rfl ht.forb hf (fun c u hc => hc.mono ht.forb hf) (fun m hm => ⟨hm, rfl⟩), h.objs.nodup, h.objs.lt⟩,
    fun i s v h1 h2 => (h.slots i s v h1 h2).imp (fun c u hc => hc.mono ht.forb hf), h.base, h.within.turn ht ho, h.size, h.defers⟩

theorem RelX.gen (h : RelX K S a w L Bs) {objs' : List AObj} {L' : Nat → Value} {Bs' : Nat → List Nat} {w' : World} (hk : Keeps S.objs objs' L L')
    (ht : Turn (Own S.objs.length Bs) w w') (ho : ∀ b, Own objs'.length Bs' b → Own S.objs.length Bs b ∨ w.heap.size ≤ b)
    (hnd : (flatN Bs' objs'.length).Nodup) (hlt : ∀ b, Own objs'.length Bs' b → b < w'.heap.size)
    (hobj : ∀ o x, objs'[o]? = some x → (Live S.objs o ∧ S.objs[o]? = some x ∧ Bs' o = Bs o ∧ ∀ b ∈ Bs o, w'.heap[b]? = w.heap[b]?) ∨ ObjRep w' objs' L' (Forb K objs'.length Bs') o x (Bs' o)) :
    RelX K { S with objs := objs' } a w' L' Bs' := by
  have hf := Forb.up (K := K) ho
  have hc : ∀ c u, CellRep w S.objs L (Forb K S.objs.length Bs) c u → CellRep w' objs' L' (Forb K objs'.length Bs') c u := fun c u hc => (hc.mono ht.forb hf).keeps hk
  refine ⟨⟨fun o x hx => ?_, hnd, hlt⟩, fun i s v h1 h2 => (h.slots i s v h1 h2).imp hc, fun i u hi => ⟨hk.live i (h.base i u hi).1, (hk.loc i (h.base i u hi).1).trans (h.base i u hi).2⟩, h.within.turn ht ho, h.size, h.defers⟩
  rcases hobj o x hx with ⟨h1, h2, h3, h4⟩ | h1
  · rw [h3]
    exact (h.objs.obj o x h2).keep h4 (hk.loc o h1) ht.forb hf hc (fun m hm => ⟨hk.live m hm, hk.loc m hm⟩)
  · exact h1

def upd {α : Type} (f : Nat → α) (n : Nat) (x : α) (i : Nat) : α := if i = n then x else f i
theorem upd_same {α : Type} (f : Nat → α) (n : Nat) (x : α) : upd f n x n = x := by simp [upd]
theorem upd_ne {α : Type} (f : Nat → α) (n : Nat) (x : α) {i : Nat} (h : i ≠ n) : upd f n x i = f i := by simp [upd, h]

theorem const_rep (objs : List AObj) (own : Nat → Prop) (v : Value) (h : ofConst v ≠ .nix) : v.oneCell' = true ∧ CellRep w objs L own (ofConst v) v := by
  unfold ofConst at h ⊢; split
  · exact ⟨rfl, [], ⟨rfl, rfl⟩, by simp⟩
  · exact ⟨rfl, [], ⟨rfl, rfl⟩, by simp⟩
  · exact ⟨rfl, [], ⟨rfl, rfl⟩, by simp⟩
  · exact ⟨rfl, rfl⟩
  · exact ⟨rfl, rfl⟩
  · rename_i h1 h2 h3 h4 h5
    exact absurd (by simp) h

theorem RelX.get (h : RelX K S a w L Bs) (x : Operand) : SlotRep w S.objs L (Forb K S.objs.length Bs) (S.get x) (a.eval x) := by
  cases x with
  | tmp t =>
    simp only [St.get, Act.eval, lget_eq]
    by_cases ht : t < S.slots.length
    · have h1 : S.slots[t]? = some S.slots[t] := List.getElem?_eq_getElem ht
      have h2 : a.tmps[t]? = some (a.tmps[t]'(by rw [h.size]; exact ht)) := Array.getElem?_eq_getElem _; have := h.slots t _ _ h1 h2
      simp [List.getD, h1, h2] 
      exact this
    · have h1 : S.slots[t]? = none := List.getElem?_eq_none (Nat.le_of_not_lt ht)
      simp [List.getD, h1, SlotRep]
  | const v =>
    simp only [St.get, Act.eval]; have hc := const_rep (w := w) (L := L) S.objs (Forb K S.objs.length Bs) v; split
    · trivial
    · rename_i hne
      exact hc (by intro e; exact hne e)
  | func f => exact ⟨rfl, #[], rfl, rfl, fun i p u hp => by simp at hp⟩
  | global g => trivial

theorem RelX.cell (h : RelX K S a w L Bs) {x : Operand} {c : Cell} (hc : S.cell x = c) (hne : c ≠ .nix) : (a.eval x).oneCell' = true ∧ CellRep w S.objs L (Forb K S.objs.length Bs) c (a.eval x) := by
  have := h.get x; unfold St.cell at hc; split at hc
  · rename_i c' hs
    subst hc; rw [hs] at this; exact this
  · exact absurd hc.symm hne

theorem RelX.val (h : RelX K S a w L Bs) {x : Operand} {v : Val} (hv : S.val? x = some v) : ValRep w S.objs L (Forb K S.objs.length Bs) v (a.eval x) := by
  have := h.get x; unfold St.val? at hv; split at hv
  · rename_i v' hs
    cases hv; rw [hs] at this; exact this
  · cases hv
end

def eqFsB (P : Program) : Nat → List Field → List Ty → Bool
  | _, [], [] => true
  | i, f :: fs, u :: us => yes2 (!(f.name == "_")) (yes2 (Nat.beq f.offset i) (yes2 (match P.underlying f.type, u with
      | some (.int k), .int k' => decide (k = k')
      | some .bool, .bool => true
      | some .string, .str => true
      | _, _ => false) (eqFsB P (i + 1) fs us)))
  | _, _, _ => false

structure TabOK (Γ : Tab) (P : Program) : Prop where
  und : ∀ t d, Γ.und t = some d → P.underlying t = some d
  info : ∀ t z n b, Γ.info t = some (z, n, b) → ∃ i, P.info? t = some i ∧ i.zero = some z ∧ i.size = n ∧ i.bytes = b ∧ z.cells.size = n
  zero1 : ∀ t z n b, Γ.info t = some (z, n, b) → ∀ v ∈ z.cells.toList, v.oneCell' = true
  fn : ∀ f fn, Γ.fn f = some fn → P.funcs[f]? = some fn ∧ (fn.name == "runtime.NumGoroutine") = false
  ty : ∀ t τ, Γ.ty t = some τ → ∃ i, P.info? t = some i ∧ i.size = τ.sz ∧ 0 < τ.sz
  mixed : P.follows .mixedOrders = true
  eqs : ∀ t ts, Γ.eqs t = some ts → P.underlying t = some (.struct (P.fieldsOf t)) ∧ P.stoodInHeld t = false ∧ P.eqGuardType P.depth t = false ∧ eqFsB P 0 (P.fieldsOf t).toList ts = true
  ext : ∀ f, Γ.extb f = true → ∃ fn c, P.funcs[f]? = some fn ∧ (fn.name == "runtime.NumGoroutine") = false ∧ fn.body = some c

theorem upon_value {P : Program} {o : Oper} {a : Act} {w w' : World} {v : Value} {next : Act → World → Prop} {Q : Exit → Act → World → Prop}
    (hr : (execOp a.eval o).run P w = .ok (.value v) w') (h : next (a.put o.dst v) w') : o.wp P a w next Q := by
  unfold Oper.wp; rw [hr]; exact h
theorem upon_skip {P : Program} {o : Oper} {a : Act} {w w' : World} {next : Act → World → Prop} {Q : Exit → Act → World → Prop}
    (hr : (execOp a.eval o).run P w = .ok .skip w') (h : next (a.put o.dst undef) w') : o.wp P a w next Q := by
  unfold Oper.wp; rw [hr]; exact h

theorem chk_some {ρ : Type} {b : Bool} {k : Option ρ} {r : ρ} (h : chk b k = some r) : b = true ∧ k = some r := by
  cases b with
  | true => exact ⟨rfl, h⟩
  | false => cases h

theorem intCell {w : World} {objs : List AObj} {L : Nat → Value} {own : Nat → Prop} (k : IntKind) (n : Int) : ValRep w objs L own (.one (.dat (.int k) n)) (.int k n) := ⟨rfl, [], ⟨rfl, rfl⟩, by simp⟩
theorem boolCell_rep {w : World} {objs : List AObj} {L : Nat → Value} {own : Nat → Prop} (b : Bool) : ValRep w objs L own (.one (.dat .bool b)) (.bool b) := ⟨rfl, [], ⟨rfl, rfl⟩, by simp⟩
theorem strCell {w : World} {objs : List AObj} {L : Nat → Value} {own : Nat → Prop} (b : ByteArray) : ValRep w objs L own (.one (.dat .str b)) (.string b) := ⟨rfl, [], ⟨rfl, rfl⟩, by simp⟩
theorem int_inv {w : World} {objs : List AObj} {L : Nat → Value} {own : Nat → Prop} {k : IntKind} {n : Int} {v : Value} (h : CellRep w objs L own (.dat (.int k) n) v) : v = .int k n := by
  obtain ⟨F, ⟨h1, _⟩, _⟩ := h; exact (List.cons.inj h1).1
theorem bool_inv {w : World} {objs : List AObj} {L : Nat → Value} {own : Nat → Prop} {n : Bool} {v : Value} (h : CellRep w objs L own (.dat .bool n) v) : v = .bool n := by
  obtain ⟨F, ⟨h1, _⟩, _⟩ := h; exact (List.cons.inj h1).1
theorem str_inv {w : World} {objs : List AObj} {L : Nat → Value} {own : Nat → Prop} {n : ByteArray} {v : Value} (h : CellRep w objs L own (.dat .str n) v) : v = .string n := by
  obtain ⟨F, ⟨h1, _⟩, _⟩ := h; exact (List.cons.inj h1).1

def Sound (K : Start) (P : Program) (o : Oper) (a : Act) (w : World) {ρ : Type} (k : St → Option ρ) (r : ρ) : Prop :=
  ∃ S', k S' = some r ∧ ∀ (next : Act → World → Prop) (Q : Exit → Act → World → Prop), (∀ a' w', Rel K S' a' w' → next a' w') → o.wp P a w next Q

theorem sound_pure {K : Start} {P : Program} {o : Oper} {S : St} {a : Act} {w : World} {L : Nat → Value} {Bs : Nat → List Nat} {ρ : Type} {k : St → Option ρ} {r : ρ} (h : RelX K S a w L Bs)
    {s : Slot} {v : Value} (hs : SlotRep w S.objs L (Forb K S.objs.length Bs) s v) (hr : (execOp a.eval o).run P w = .ok (.value v) w) (hk : k (S.put o.dst s) = some r) : Sound K P o a w k r :=
  ⟨_, hk, fun _ _ hn => upon_value hr (hn _ _ (h.put o.dst hs).rel)⟩

end Go.Proofs.GR

namespace Go.Proofs.GR

theorem flatN_nodup {α : Type} {f : Nat → List α} : ∀ {n : Nat}, (∀ i, i < n → (f i).Nodup) → (∀ i j, i < n → j < n → i ≠ j → ∀ b, b ∈ f i → b ∉ f j) → (flatN f n).Nodup
  | 0, _, _ => by simp [flatN]
  | n + 1, h1, h2 => by
    rw [flatN_succ]; refine List.nodup_append.2 ⟨flatN_nodup (fun i hi => h1 i (by omega)) (fun i j hi hj => h2 i j (by omega) (by omega)), h1 n (by omega), fun b hb b' hb' e => ?_⟩; subst e; obtain ⟨i, hi, hbi⟩ := mem_flatN.1 hb; exact h2 i n (by omega) (by omega) (by omega) b hbi hb'

theorem flatN_nodup_at {α : Type} {f : Nat → List α} : ∀ {n : Nat}, (flatN f n).Nodup → ∀ {i : Nat}, i < n → (f i).Nodup
  | 0, _, i, hi => by omega
  | n + 1, hn, i, hi => by
    rw [flatN_succ] at hn; obtain ⟨h1, h2, _⟩ := List.nodup_append.1 hn
    by_cases h : i = n
    · rw [h]; exact h2
    · exact flatN_nodup_at h1 (by omega)

theorem flatN_disj {α : Type} {f : Nat → List α} : ∀ {n : Nat}, (flatN f n).Nodup → ∀ {i j : Nat}, i < n → j < n → i ≠ j → ∀ b, b ∈ f i → b ∉ f j
  | 0, _, i, _, hi, _, _, _, _ => by omega
  | n + 1, hn, i, j, hi, hj, hij, b, hb => by
    rw [flatN_succ] at hn; obtain ⟨h1, h2, h3⟩ := List.nodup_append.1 hn; intro hb'
    by_cases hi' : i = n
    · subst hi'
      exact h3 b (mem_flatN.2 ⟨j, by omega, hb'⟩) b hb rfl
    · by_cases hj' : j = n
      · subst hj'
        exact h3 b (mem_flatN.2 ⟨i, by omega, hb⟩) b hb' rfl
      · exact flatN_disj h1 (by omega) (by omega) hij b hb hb'

theorem lhas_iff (l : List Nat) (n : Nat) : lhas l n = true ↔ n ∈ l := by
  induction l with
  | nil => simp [lhas]
  | cons a l ih =>
    simp only [lhas]
    cases h : Nat.beq a n with
    | true => simp [Nat.eq_of_beq_eq_true h]
    | false =>
      have : a ≠ n := by rintro rfl; simp at h
      simp [ih, Ne.symm this]
theorem lnodup_iff (l : List Nat) : lnodup l = true ↔ l.Nodup := by
  induction l with
  | nil => simp [lnodup]
  | cons a l ih =>
    simp only [lnodup, List.nodup_cons, ← ih, ← lhas_iff]; cases lhas l a <;> simp

theorem lpad_eq {α : Type} (n : Nat) (d : α) (l : List α) : lpad n d l = l ++ List.replicate (n - l.length) d := by
  induction n generalizing l with
  | zero => simp [lpad]
  | succ n ih =>
    cases l with
    | nil => simp [lpad, ih, List.replicate_succ]
    | cons a l => simp [lpad, ih]

section
variable {K : Start} {S : St} {a : Act} {w : World} {L : Nat → Value} {Bs : Nat → List Nat}

theorem kill_obj (S : St) (o i : Nat) : (S.kill o).objs[i]? = if o = i ∧ i < S.objs.length then some .dead else S.objs[i]? := by
  simp only [St.kill, St.setObj, lset_eq, List.getElem?_set]
  by_cases h : o = i
  · subst h
    by_cases h2 : o < S.objs.length <;> simp [h2]
  · simp [h]
theorem kill_len (S : St) (o : Nat) : (S.kill o).objs.length = S.objs.length := by simp [St.kill, St.setObj, lset_eq]
theorem kills_len (os : List Nat) : ∀ (S : St), (os.foldl St.kill S).objs.length = S.objs.length := by
  induction os with
  | nil => intro S; rfl
  | cons o os ih => intro S; rw [List.foldl_cons, ih, kill_len]
theorem kills_slots (os : List Nat) : ∀ (S : St), (os.foldl St.kill S).slots = S.slots := by
  induction os with
  | nil => intro S; rfl
  | cons o os ih => intro S; rw [List.foldl_cons, ih]; rfl
theorem kills_obj (os : List Nat) (i : Nat) : ∀ (S : St), (os.foldl St.kill S).objs[i]? = if i ∈ os ∧ i < S.objs.length then some .dead else S.objs[i]? := by
  induction os with
  | nil => intro S; simp
  | cons o os ih =>
    intro S; rw [List.foldl_cons, ih, kill_len, kill_obj]
    by_cases h1 : i ∈ os
    · by_cases h2 : i < S.objs.length <;> simp [h1, h2]
    · by_cases h2 : o = i
      · subst h2
        by_cases h3 : o < S.objs.length <;> simp [h1, h3]
      · simp [h1, h2, Ne.symm h2]


theorem lsetp_get (objs : List AObj) (i : Nat) (x : AObj) (j : Nat) : (lsetp objs i x)[j]? = if j = i then some x else if j < objs.length then objs[j]? else if j < i then some .hole else none := by
  unfold lsetp; rw [lset_eq, lpad_eq]
  by_cases hji : j = i
  · subst hji
    rw [if_pos rfl, List.getElem?_set_self]
    simp
    omega
  · rw [if_neg hji, List.getElem?_set_ne (Ne.symm hji)]
    by_cases hj : j < objs.length
    · rw [if_pos hj, List.getElem?_append_left hj]
    · rw [if_neg hj, List.getElem?_append_right (by omega), List.getElem?_replicate]
      by_cases hi : j < i
      · rw [if_pos hi, if_pos (by omega)]
      · rw [if_neg hi, if_neg (by omega)]

theorem isFree_get {objs : List AObj} {i : Nat} (h : isFree objs i = true) : ∀ y, objs[i]? = some y → y = .hole := by
  intro y hy; unfold isFree at h; rw [lat?_eq, hy] at h; cases y <;> simp at h; rfl

theorem RelX.seen (h : RelX K S a w L Bs) {b : Nat} (hb : Own S.objs.length Bs b) : ¬ Unseen K b := by
  rintro ⟨h1, h2⟩
  rcases h.within.own b hb with h3 | h3
  · exact h2 (K.sees b h3)
  · omega
theorem RelX.write (h : RelX K S a w L Bs) {o : Nat} (ho : Live S.objs o) {w' : World} {B : List Nat} (hos : w'.os = w.os) (htape : w'.tape = w.tape) (hout : w'.output = w.output) (hsize : w.heap.size ≤ w'.heap.size)
    (hblk : ∀ b, b < w.heap.size → b ∉ Bs o → w'.heap[b]? = w.heap[b]?) (os : List Nat) (hno : o ∉ os) (x : AObj)
    (hB : ∀ b ∈ B, b ∈ Bs o ∨ (∃ q ∈ os, q < S.objs.length ∧ b ∈ Bs q) ∨ (w.heap.size ≤ b ∧ b < w'.heap.size)) (hBn : B.Nodup)
    (hkind : match x with
      | .row t xs _ => ∃ xs0 d0, S.objs[o]? = some (.row t xs0 d0) ∧ xs0.length = xs.length
      | .box t _ => ∃ cs0, S.objs[o]? = some (.box t cs0)
      | .dead => True
      | .hole => False
      | .lent _ _ _ _ _ => False)
    (hx : ∀ (objs' : List AObj) (own' : Nat → Prop), (∀ c u, CellRep w S.objs L (Forb K S.objs.length Bs) c u → CellRep w' objs' L own' c u) →
      (∀ b, own' b → b ∈ B ∨ (∃ q, q < S.objs.length ∧ q ≠ o ∧ q ∉ os ∧ b ∈ Bs q) ∨ Unseen K b) → ObjRep w' objs' L own' o x B) :
    RelX K ((os.foldl St.kill S).setObj o x) a w' L (fun i => if i = o then B else if i ∈ os then [] else Bs i) := by
  have hol := ho.lt
  have hxl : x.isHole = false := by cases x <;> first | rfl | exact hkind.elim
  have hl : ((os.foldl St.kill S).setObj o x).objs.length = S.objs.length := by simp [St.setObj, lset_eq, kills_len]
  have hget : ∀ i, ((os.foldl St.kill S).setObj o x).objs[i]? = if i = o then some x else if i ∈ os ∧ i < S.objs.length then some .dead else S.objs[i]? := by
    intro i; simp only [St.setObj, lset_eq]
    by_cases hi : o = i
    · subst hi
      simp [kills_len, hol]
    · rw [List.getElem?_set_ne hi, kills_obj]
      simp [Ne.symm hi]
  have hslots : ((os.foldl St.kill S).setObj o x).slots = S.slots := by simp [St.setObj, kills_slots]
  have hlt : ∀ i, i < S.objs.length → ∀ b ∈ Bs i, b < w.heap.size := fun i hi b hb => h.objs.lt b (mem_flatN.2 ⟨i, hi, hb⟩)
  have hown : ∀ b, Own S.objs.length (fun i => if i = o then B else if i ∈ os then [] else Bs i) b ↔ b ∈ B ∨ ∃ q, q < S.objs.length ∧ q ≠ o ∧ q ∉ os ∧ b ∈ Bs q := by
    intro b; unfold Own; rw [mem_flatN]; constructor
    · rintro ⟨i, hi, hb⟩
      by_cases h1 : i = o
      · simp [h1] at hb; exact .inl hb
      · by_cases h2 : i ∈ os
        · simp [h1, h2] at hb
        · simp [h1, h2] at hb; exact .inr ⟨i, hi, h1, h2, hb⟩
    · rintro (hb | ⟨q, h1, h2, h3, h4⟩)
      · exact ⟨o, hol, by simp [hb]⟩
      · exact ⟨q, h1, by simp [h2, h3, h4]⟩
  have ht : Turn (Own S.objs.length Bs) w w' := ⟨hos, htape, hout, hsize, fun b hb hn => hblk b hb (fun hc => hn (mem_flatN.2 ⟨o, hol, hc⟩))⟩
  have hoo : ∀ b, Own S.objs.length (fun i => if i = o then B else if i ∈ os then [] else Bs i) b → Own S.objs.length Bs b ∨ w.heap.size ≤ b := by
    intro b hb
    rcases (hown b).1 hb with hb | ⟨q, h1, _, _, h4⟩
    · rcases hB b hb with h1 | ⟨q, _, h2, h3⟩ | h1
      · exact .inl (mem_flatN.2 ⟨o, hol, h1⟩)
      · exact .inl (mem_flatN.2 ⟨q, h2, h3⟩)
      · exact .inr h1.1
    · exact .inl (mem_flatN.2 ⟨q, h1, h4⟩)
  have hk : Keeps S.objs ((os.foldl St.kill S).setObj o x).objs L L := by
    refine ⟨fun i hi => ?_, fun _ _ => rfl, fun i t xs d hi hx' => ?_, fun i t cs hi hx' => ?_⟩
    · obtain ⟨y, hy1, hy2⟩ := hi
      by_cases h1 : i = o
      · exact ⟨x, by rw [hget, if_pos h1], hxl⟩
      · by_cases h2 : i ∈ os ∧ i < S.objs.length
        · exact ⟨.dead, by rw [hget, if_neg h1, if_pos h2], rfl⟩
        · exact ⟨y, by rw [hget, if_neg h1, if_neg h2]; exact hy1, hy2⟩
    · rcases hx' with hx' | ⟨hd, i1, i2, i3, hx'⟩
      · rw [hget] at hx'
        split at hx'
        · rename_i hio
          subst hio; cases hx'; obtain ⟨xs0, d0, h1, h2⟩ := hkind; exact ⟨xs0, d0, .inl h1, h2⟩
        · split at hx'
          · cases hx'
          · exact ⟨xs, d, .inl hx', rfl⟩
      · rw [hget] at hx'
        split at hx'
        · rename_i hio
          subst hio; cases hx'; exact hkind.elim
        · split at hx'
          · cases hx'
          · exact ⟨xs, d, .inr ⟨hd, i1, i2, i3, hx'⟩, rfl⟩
    · rw [hget] at hx'
      split at hx'
      · rename_i hio
        subst hio; cases hx'; exact hkind
      · split at hx'
        · cases hx'
        · exact ⟨cs, hx'⟩
  have hc : ∀ c u, CellRep w S.objs L (Forb K S.objs.length Bs) c u → CellRep w' ((os.foldl St.kill S).setObj o x).objs L (Forb K S.objs.length (fun i => if i = o then B else if i ∈ os then [] else Bs i)) c u := fun c u hc => (hc.mono ht.forb (Forb.up hoo)).keeps hk
  have hdis : ∀ i j, i < S.objs.length → j < S.objs.length → i ≠ j → ∀ b, b ∈ Bs i → b ∉ Bs j := fun i j hi hj hij b => flatN_disj h.objs.nodup hi hj hij b
  have R := h.gen (objs' := ((os.foldl St.kill S).setObj o x).objs) (L' := L) (Bs' := fun i => if i = o then B else if i ∈ os then [] else Bs i) (w' := w') hk ht (by rw [hl]; exact hoo)
    (by
      rw [hl]; refine flatN_nodup (fun i hi => ?_) (fun i j hi hj hij b hb hb' => ?_)
      · split
        · exact hBn
        · split
          · exact List.nodup_nil
          · exact flatN_nodup_at h.objs.nodup hi
      · have key : ∀ i, i < S.objs.length → i ≠ o → i ∉ os → ∀ b, b ∈ Bs i → b ∉ B := by
          intro i hi h1 h2 b hb hbB
          rcases hB b hbB with h3 | ⟨q, h3, h4, h5⟩ | h3
          · exact hdis i o hi hol h1 b hb h3
          · exact hdis i q hi h4 (by rintro rfl; exact h2 h3) b hb h5
          · have := hlt i hi b hb; omega
        split at hb
        · split at hb'
          · omega
          · split at hb'
            · simp at hb'
            · exact key j hj (by assumption) (by assumption) b hb' hb
        · split at hb
          · simp at hb
          · split at hb'
            · exact key i hi (by assumption) (by assumption) b hb hb'
            · split at hb'
              · simp at hb'
              · exact hdis i j hi hj hij b hb hb')
    (by
      rw [hl]; intro b hb
      rcases (hown b).1 hb with hb | ⟨q, h1, _, _, h4⟩
      · rcases hB b hb with h1 | ⟨q, _, h2, h3⟩ | h1
        · exact Nat.lt_of_lt_of_le (hlt o hol b h1) hsize
        · exact Nat.lt_of_lt_of_le (hlt q h2 b h3) hsize
        · exact h1.2
      · exact Nat.lt_of_lt_of_le (hlt q h1 b h4) hsize)
    (by
      intro i y hy; rw [hget] at hy; split at hy
      · rename_i hio
        subst hio; cases hy; refine .inr ?_; rw [hl]; simp only [if_true]; refine hx _ _ hc (fun b hb => ?_)
        rcases hb with hb | hb
        · exact ((hown b).1 hb).imp id .inl
        · exact .inr (.inr hb)
      · rename_i hio
        split at hy
        · rename_i hio2
          cases hy; refine .inr ?_
          show (if i = o then B else if i ∈ os then [] else Bs i) = []
          simp [hio, hio2.1]
        · rename_i hio2
          have hi : i < S.objs.length := (List.getElem?_eq_some_iff.1 hy).1
          have hio3 : i ∉ os := fun hm => hio2 ⟨hm, hi⟩
          cases hyh : y.isHole with
          | false => exact .inl ⟨⟨y, hy, hyh⟩, hy, by simp [hio, hio3], fun b hb => hblk b (hlt i hi b hb) (hdis i o hi hol hio b hb)⟩
          | true =>
            have hye : y = .hole := by cases y <;> simp [AObj.isHole] at hyh; rfl
            subst hye; refine .inr ?_
            show (if i = o then B else if i ∈ os then [] else Bs i) = []
            rw [if_neg hio, if_neg hio3]
            exact h.objs.obj i _ hy)
  rw [show ({ S with objs := ((os.foldl St.kill S).setObj o x).objs } : St) = (os.foldl St.kill S).setObj o x from by
    cases hS : (os.foldl St.kill S).setObj o x with
    | mk sl ob => rw [hS] at hslots; simp only at hslots; rw [hslots]] at R
  exact R

theorem RelX.take (h : RelX K S a w L Bs) {w' : World} {B : List Nat} (hos : w'.os = w.os) (htape : w'.tape = w.tape) (hout : w'.output = w.output) (hsize : w.heap.size ≤ w'.heap.size) (os : List Nat)
    (hblk : ∀ b, b < w.heap.size → (∀ q ∈ os, q < S.objs.length → b ∉ Bs q) → w'.heap[b]? = w.heap[b]?) (m : Nat) (hm : isFree S.objs m = true) (x : AObj) (hxl : x.isHole = false) (lv : Value)
    (hB : ∀ b ∈ B, (∃ q ∈ os, q < S.objs.length ∧ b ∈ Bs q) ∨ (w.heap.size ≤ b ∧ b < w'.heap.size)) (hBn : B.Nodup)
    (hx : ∀ (objs' : List AObj) (L' : Nat → Value) (own' : Nat → Prop), (∀ c u, CellRep w S.objs L (Forb K S.objs.length Bs) c u → CellRep w' objs' L' own' c u) → L' m = lv →
      (∀ b, own' b → b ∈ B ∨ (∃ q, q < S.objs.length ∧ q ∉ os ∧ b ∈ Bs q) ∨ Unseen K b) → ObjRep w' objs' L' own' m x B) :
    ∃ L' Bs', RelX K ((os.foldl St.kill S).place m x) a w' L' Bs' ∧ L' m = lv ∧ Live ((os.foldl St.kill S).place m x).objs m := by
  have hl0 : (os.foldl St.kill S).objs.length = S.objs.length := kills_len os S
  have hget : ∀ i, ((os.foldl St.kill S).place m x).objs[i]? = if i = m then some x else if i < S.objs.length then (if i ∈ os then some .dead else S.objs[i]?) else if i < m then some .hole else none := by
    intro i; simp only [St.place]; rw [lsetp_get, hl0]
    by_cases hi : i = m
    · rw [if_pos hi, if_pos hi]
    · rw [if_neg hi, if_neg hi]
      by_cases hi2 : i < S.objs.length
      · rw [if_pos hi2, if_pos hi2, kills_obj]
        by_cases h3 : i ∈ os <;> simp [h3, hi2]
      · rw [if_neg hi2, if_neg hi2]
  have hslots : ((os.foldl St.kill S).place m x).slots = S.slots := by simp [St.place, kills_slots]
  have hlen : S.objs.length ≤ ((os.foldl St.kill S).place m x).objs.length := by
    simp only [St.place, lsetp, lset_eq, lpad_eq, List.length_set, List.length_append, hl0]; omega
  have hml : m < ((os.foldl St.kill S).place m x).objs.length := by
    have := hget m; rw [if_pos rfl] at this; exact (List.getElem?_eq_some_iff.1 this).1
  generalize ((os.foldl St.kill S).place m x) = S' at *; have hfree := isFree_get hm
  have hlt : ∀ i, i < S.objs.length → ∀ b ∈ Bs i, b < w.heap.size := fun i hi b hb => h.objs.lt b (mem_flatN.2 ⟨i, hi, hb⟩)
  let Bs' : Nat → List Nat := fun i => if i = m then B else if i < S.objs.length then (if i ∈ os then [] else Bs i) else []
  have hown : ∀ b, Own S'.objs.length Bs' b → b ∈ B ∨ ∃ q, q < S.objs.length ∧ q ∉ os ∧ b ∈ Bs q := by
    intro b hb; obtain ⟨i, hi, hb⟩ := mem_flatN.1 hb; simp only [Bs'] at hb; split at hb
    · exact .inl hb
    · split at hb
      · split at hb
        · simp at hb
        · exact .inr ⟨i, by assumption, by assumption, hb⟩
      · simp at hb
  have ht : Turn (Own S.objs.length Bs) w w' := ⟨hos, htape, hout, hsize, fun b hb hn => hblk b hb (fun q _ hq hc => hn (mem_flatN.2 ⟨q, hq, hc⟩))⟩
  have hoo : ∀ b, Own S'.objs.length Bs' b → Own S.objs.length Bs b ∨ w.heap.size ≤ b := by
    intro b hb
    rcases hown b hb with hb | ⟨q, h1, _, h4⟩
    · rcases hB b hb with ⟨q, _, h2, h3⟩ | h1
      · exact .inl (mem_flatN.2 ⟨q, h2, h3⟩)
      · exact .inr h1.1
    · exact .inl (mem_flatN.2 ⟨q, h1, h4⟩)
  have hne : ∀ i, Live S.objs i → i ≠ m := by
    rintro i ⟨y, hy1, hy2⟩ rfl
    rw [hfree y hy1] at hy2; cases hy2
  have hk : Keeps S.objs S'.objs L (upd L m lv) := by
    refine ⟨fun i hi => ?_, fun o ho => upd_ne _ _ _ (hne o ho), fun i t xs d hi hx' => ?_, fun i t cs hi hx' => ?_⟩
    · have hi1 := hi.lt
      have hi2 := hne i hi; obtain ⟨y, hy1, hy2⟩ := hi
      by_cases h2 : i ∈ os
      · exact ⟨.dead, by rw [hget, if_neg hi2, if_pos hi1, if_pos h2], rfl⟩
      · exact ⟨y, by rw [hget, if_neg hi2, if_pos hi1, if_neg h2]; exact hy1, hy2⟩
    · rcases hx' with hx' | ⟨hd, i1, i2, i3, hx'⟩
      · rw [hget, if_neg (hne i hi), if_pos hi.lt] at hx'
        split at hx'
        · cases hx'
        · exact ⟨xs, d, .inl hx', rfl⟩
      · rw [hget, if_neg (hne i hi), if_pos hi.lt] at hx'
        split at hx'
        · cases hx'
        · exact ⟨xs, d, .inr ⟨hd, i1, i2, i3, hx'⟩, rfl⟩
    · rw [hget, if_neg (hne i hi), if_pos hi.lt] at hx'
      split at hx'
      · cases hx'
      · exact ⟨cs, hx'⟩
  have hc : ∀ c u, CellRep w S.objs L (Forb K S.objs.length Bs) c u → CellRep w' S'.objs (upd L m lv) (Forb K S'.objs.length Bs') c u := fun c u hc => (hc.mono ht.forb (Forb.up hoo)).keeps hk
  have hdis : ∀ i j, i < S.objs.length → j < S.objs.length → i ≠ j → ∀ b, b ∈ Bs i → b ∉ Bs j := fun i j hi hj hij b => flatN_disj h.objs.nodup hi hj hij b
  have R := h.gen (objs' := S'.objs) (L' := upd L m lv) (Bs' := Bs') (w' := w') hk ht hoo
    (by
      refine flatN_nodup (fun i hi => ?_) (fun i j hi hj hij b hb hb' => ?_)
      · simp only [Bs']
        split
        · exact hBn
        · split
          · split
            · exact List.nodup_nil
            · exact flatN_nodup_at h.objs.nodup (by assumption)
          · exact List.nodup_nil
      · have key : ∀ i, i < S.objs.length → i ∉ os → ∀ b, b ∈ Bs i → b ∉ B := by
          intro i hi h2 b hb hbB
          rcases hB b hbB with ⟨q, h3, h4, h5⟩ | h3
          · exact hdis i q hi h4 (by rintro rfl; exact h2 h3) b hb h5
          · have := hlt i hi b hb; omega
        have inv : ∀ i, b ∈ Bs' i → (i = m ∧ b ∈ B) ∨ (i < S.objs.length ∧ i ∉ os ∧ b ∈ Bs i) := by
          intro i hb; simp only [Bs'] at hb; split at hb
          · exact .inl ⟨by assumption, hb⟩
          · split at hb
            · split at hb
              · simp at hb
              · exact .inr ⟨by assumption, by assumption, hb⟩
            · simp at hb
        rcases inv i hb with ⟨h1, h2⟩ | ⟨h1, h2, h3⟩
        · rcases inv j hb' with ⟨h4, h5⟩ | ⟨h4, h5, h6⟩
          · omega
          · exact key j h4 h5 b h6 h2
        · rcases inv j hb' with ⟨h4, h5⟩ | ⟨h4, h5, h6⟩
          · exact key i h1 h2 b h3 h5
          · exact hdis i j h1 h4 hij b h3 h6)
    (by
      intro b hb
      rcases hown b hb with hb | ⟨q, h1, _, h4⟩
      · rcases hB b hb with ⟨q, _, h2, h3⟩ | h1
        · exact Nat.lt_of_lt_of_le (hlt q h2 b h3) hsize
        · exact h1.2
      · exact Nat.lt_of_lt_of_le (hlt q h1 b h4) hsize)
    (by
      intro i y hy; rw [hget] at hy; split at hy
      · rename_i hio
        subst hio; cases hy; refine .inr ?_; simp only [Bs', if_true]; refine hx _ _ _ hc (upd_same _ _ _) (fun b hb => ?_)
        rcases hb with hb | hb
        · have := hown b hb
          exact this.imp id .inl
        · exact .inr (.inr hb)
      · rename_i hio
        split at hy
        · rename_i hi
          split at hy
          · rename_i hio2
            cases hy; refine .inr ?_
            show Bs' i = []
            simp [Bs', hio, hi, hio2]
          · rename_i hio2
            cases hyh : y.isHole with
            | false => exact .inl ⟨⟨y, hy, hyh⟩, hy, by simp [Bs', hio, hi, hio2], fun b hb => hblk b (hlt i hi b hb) (fun q hq hql => hdis i q hi hql (by rintro rfl; exact hio2 hq) b hb)⟩
            | true =>
              have hye : y = .hole := by cases y <;> simp [AObj.isHole] at hyh; rfl
              subst hye; refine .inr ?_
              show Bs' i = []
              simp only [Bs', hio, hi, hio2, if_true, if_false]; exact h.objs.obj i _ hy
        · rename_i hi
          split at hy
          · cases hy
            refine .inr ?_
            show Bs' i = []
            simp [Bs', hio, hi]
          · cases hy)
  rw [show ({ S with objs := S'.objs } : St) = S' from by
    cases S' with
    | mk sl ob => simp only at hslots; rw [← hslots]] at R
  exact ⟨_, _, R, upd_same _ _ _, ⟨x, by rw [hget, if_pos rfl], hxl⟩⟩
end
end Go.Proofs.GR

namespace Go.Proofs.GR

section
variable {K : Start} {P : Program} {Γ : Tab} {C : Orc} {o : Oper} {S : St} {a : Act} {w : World} {L : Nat → Value} {Bs : Nat → List Nat} {ρ : Type} {k : St → Option ρ} {r : ρ}

theorem sound_move (h : RelX K S a w L Bs) (x : Operand) (ho : o.op = .move x ∨ o.op = .assign x) (hk : k (S.put o.dst (S.get x)) = some r) : Sound K P o a w k r :=
  sound_pure h (h.get x) (by rcases ho with ho | ho <;> simp [execOp, ho]) hk

theorem eqGuard_int (op : BinOp) (t : TypeId) (x y : Operand) (k1 k2 : IntKind) (m n : Int) : (eqGuard op t x y (.int k1 m) (.int k2 n)).run P w = .ok () w := by
  unfold eqGuard; split <;> simp
theorem eqGuard_str (op : BinOp) (t : TypeId) (x y : Operand) (m n : ByteArray) : (eqGuard op t x y (.string m) (.string n)).run P w = .ok () w := by
  unfold eqGuard; split <;> simp
theorem eqGuard_bool (op : BinOp) (t : TypeId) (x y : Operand) (m n : Bool) : (eqGuard op t x y (.bool m) (.bool n)).run P w = .ok () w := by
  unfold eqGuard; split <;> simp

theorem guard_int (op : BinOp) (t : TypeId) (x y : Operand) (k1 k2 : IntKind) (m n : Int) (f : Sem Value) : (do eqGuard op t x y (.int k1 m) (.int k2 n); f : Sem Value).run P w = f.run P w := by
  simp only [Sem.run_bind, eqGuard_int, Result.andThen_ok]
theorem guard_str (op : BinOp) (t : TypeId) (x y : Operand) (m n : ByteArray) (f : Sem Value) : (do eqGuard op t x y (.string m) (.string n); f : Sem Value).run P w = f.run P w := by
  simp only [Sem.run_bind, eqGuard_str, Result.andThen_ok]

def cellVal : Cell → Value
  | .dat (.int k) n => .int k n
  | .dat .bool b => .bool b
  | .dat .str s => .string s
  | _ => undef
def plainCell : Cell → Bool
  | .dat (.int _) _ => true
  | .dat .bool _ => true
  | .dat .str _ => true
  | _ => false
theorem plain_rep {w : World} {objs : List AObj} {L : Nat → Value} {own : Nat → Prop} (c : Cell) (h : plainCell c = true) : ValRep w objs L own (.one c) (cellVal c) := by
  unfold plainCell at h; split at h
  · exact intCell _ _
  · exact boolCell_rep _
  · exact strCell _
  · cases h

theorem run_intBin (op : BinOp) (t : TypeId) (q : IntKind) (x y : Int) (g : Bool) (c : Cell) (h : intBin op q x y = some (g, c)) (hg : g = true) :
    plainCell c = true ∧ (binOp op t (.int q x) (.int q y)).run P w = .ok (cellVal c) w := by
  cases op <;> simp only [intBin, Option.some.injEq, Prod.mk.injEq, reduceCtorEq] at h <;> obtain ⟨h1, rfl⟩ := h <;>
    first
    | (refine ⟨rfl, ?_⟩; simp [binOp, Op.intArith, Op.intBits, Op.intCmp, cellVal]; done)
    | (subst h1
       have hy : ¬ y = 0 := by simpa using hg
       refine ⟨rfl, ?_⟩
       simp [binOp, Op.intDiv, hy, cellVal]
       done)

theorem run_strBin (op : BinOp) (t : TypeId) (x y : ByteArray) (g : Bool) (c : Cell) (h : strBin op x y = some (g, c)) (hg : g = true) :
    plainCell c = true ∧ (binOp op t (.string x) (.string y)).run P w = .ok (cellVal c) w := by
  cases op <;> simp only [strBin, Option.some.injEq, Prod.mk.injEq, reduceCtorEq] at h <;> obtain ⟨h1, rfl⟩ := h <;>
    first
    | (refine ⟨rfl, ?_⟩; simp [binOp, Op.stringOp, cellVal]; done)
    | (subst h1
       have h2 : x.size + y.size ≤ 9223372036854775807 := of_decide_eq_true hg
       have hy : ¬ (((x.size + y.size : Nat) : Int) > IntKind.i64.max) := by
         simp only [IntKind.max, IntKind.signed, IntKind.bits]
         simp
         omega
       refine ⟨rfl, ?_⟩; simp only [binOp, Op.stringOp, cellVal]; rw [if_neg hy]
       rfl)

theorem run_eqlBool (op : BinOp) (t : TypeId) (x y : Operand) (m n : Bool) (ht : P.underlying t = some .bool) (hop : op = .eql ∨ op = .neq) :
    (do eqGuard op t x y (.bool m) (.bool n); binOp op t (.bool m) (.bool n) : Sem Value).run P w = .ok (.bool (if op = .eql then (m == n) else !(m == n))) w := by
  have he : (Op.equal t (.bool m) (.bool n)).run P w = .ok (m == n) w := by
    have hd : ∀ d, (Op.equalIn (d + 1) t (.bool m) (.bool n)).run P w = .ok (m == n) w := fun d => by simp [Op.equalIn, run_underlying ht]
    exact hd 9999
  rcases hop with rfl | rfl
  · simp only [Sem.run_bind, eqGuard_bool, Result.andThen_ok, binOp]
    rw [he]
    simp
  · simp only [Sem.run_bind, eqGuard_bool, Result.andThen_ok, binOp]
    rw [he]
    simp

theorem execOp_bin (ev : Operand → Value) (op : BinOp) (t u : TypeId) (x y : Operand) (ho : o.op = .binOp op t x y u) :
    execOp ev o = (do let v ← (do eqGuard op t x y (ev x) (ev y); binOp op t (ev x) (ev y) : Sem Value); pure (.value v)) := by
  simp [execOp, ho]

theorem run_shift (op : BinOp) (t : TypeId) (q q2 : IntKind) (x y : Int) (hy : 0 ≤ y) (hop : op = .shl ∨ op = .shr) :
    (binOp op t (.int q x) (.int q2 y)).run P w = .ok (if op = .shl then .int q (q.wrap (x * 2 ^ min y.toNat q.bits)) else .int q (x.fdiv (2 ^ min y.toNat q.bits))) w := by
  rcases hop with rfl | rfl <;> simp [binOp, Op.shift, Int.not_lt.2 hy]

theorem yes2_and {a b : Bool} (h : yes2 a b = true) : a = true ∧ b = true := by
  cases a with
  | false => cases h
  | true => exact ⟨rfl, h⟩
theorem eqFields_run {objs : List AObj} {L1 L2 : Nat → Value} {F1 F2 : Nat → Prop} (d : Nat) (vs us : Array Value) : ∀ (fs : List Field) (ts : List Ty) (i : Nat) (cx cy : List Cell) (b : Bool),
    eqFsB P i fs ts = true → sameTys cx ts = true → sameTys cy ts = true → eqCells cx cy = some b →
    (∀ (j : Nat) c, cx[j]? = some c → ∃ v, vs[i + j]? = some v ∧ CellRep w objs L1 F1 c v) → (∀ (j : Nat) c, cy[j]? = some c → ∃ v, us[i + j]? = some v ∧ CellRep w objs L2 F2 c v) →
    (Op.eqFields (d + 1) vs us fs).run P w = .ok b w
  | [], ts, i, cx, cy, b, h, hx, hy, he, _, _ => by
    cases ts with
    | cons _ _ => cases h
    | nil =>
      cases cx with
      | cons c cx => cases c <;> cases hx
      | nil =>
        cases cy with
        | cons c cy => cases c <;> cases hy
        | nil =>
          cases he
          simp [Op.eqFields]
  | f :: fs, ts, i, cx, cy, b, h, hx, hy, he, rx, ry => by
    cases ts with
    | nil => cases h
    | cons u ts =>
      unfold eqFsB at h; obtain ⟨h1, h2⟩ := yes2_and h; obtain ⟨h2, h3⟩ := yes2_and h2; obtain ⟨h3, h4⟩ := yes2_and h3; have hoff := Nat.eq_of_beq_eq_true h2
      have hname : f.name ≠ "_" := by intro e; rw [e] at h1; simp at h1
      cases cx with
      | nil => cases hx
      | cons c cx =>
        cases cy with
        | nil => cases hy
        | cons c' cy =>
          obtain ⟨v, hv, rv⟩ := rx 0 c rfl; obtain ⟨v', hv', rv'⟩ := ry 0 c' rfl
          have rest := fun (b' : Bool) (hb' : eqCells cx cy = some b') (hx' : sameTys cx ts = true) (hy' : sameTys cy ts = true) => eqFields_run d vs us fs ts (i + 1) cx cy b' h4 hx' hy' hb' (fun j c hj => by
            obtain ⟨v, h5, h6⟩ := rx (j + 1) c (by simpa using hj)
            exact ⟨v, by rw [show i + 1 + j = i + (j + 1) by omega]; exact h5, h6⟩) (fun j c hj => by
            obtain ⟨v, h5, h6⟩ := ry (j + 1) c (by simpa using hj)
            exact ⟨v, by rw [show i + 1 + j = i + (j + 1) by omega]; exact h5, h6⟩)
          rw [Nat.add_zero] at hv hv'
          have fin : ∀ (e : Bool) (b' : Bool), eqCells cx cy = some b' → b = (e && b') → sameTys cx ts = true → sameTys cy ts = true → (isAgg f.type).run P w = .ok false w → (Op.equalIn (d + 1) f.type v v').run P w = .ok e w → (Op.eqFields (d + 1) vs us (f :: fs)).run P w = .ok b w := by
            intro e b' hb' hbe hx' hy' ha hq
            have p1 : (part f.type vs f.offset).run P w = .ok v w := by
              unfold part; simp only [Sem.run_bind, ha, Result.andThen_ok, Bool.false_eq_true, if_false, hoff, hv]; rfl
            have p2 : (part f.type us f.offset).run P w = .ok v' w := by
              unfold part; simp only [Sem.run_bind, ha, Result.andThen_ok, Bool.false_eq_true, if_false, hoff, hv']; rfl
            unfold Op.eqFields; rw [if_pos hname]; simp only [Sem.run_bind, p1, p2, hq, Result.andThen_ok]; rw [hbe]
            cases e with
            | false => simp
            | true => simpa using rest b' hb' hx' hy'
          have agg : ∀ dsc, P.underlying f.type = some dsc → (match dsc with | .struct _ => False | .array _ _ => False | _ => True) → (isAgg f.type).run P w = .ok false w := by
            intro dsc hd hn; unfold isAgg; simp only [Sem.run_bind, run_underlying hd, Result.andThen_ok]; cases dsc <;> first | rfl | exact hn.elim
          cases c with
          | dat t x =>
            cases c' with
            | dat t' y =>
              unfold sameTys at hx hy
              cases ht : tyEq t u with
              | false => rw [ht] at hx; cases hx
              | true =>
                cases ht' : tyEq t' u with
                | false => rw [ht'] at hy; cases hy
                | true =>
                  rw [ht, cond_true] at hx; rw [ht', cond_true] at hy; rw [tyEq_eq] at ht ht'; have e1 : t = u := of_decide_eq_true ht; have e2 : t' = u := of_decide_eq_true ht'; subst e1; subst e2
                  cases t' with
                  | int k =>
                    have ea := int_inv rv; have eb := int_inv rv'; subst ea; subst eb
                    cases hu : P.underlying f.type with
                    | none => rw [hu] at h3; cases h3
                    | some dsc =>
                      rw [hu] at h3
                      cases dsc with
                      | int k' =>
                        unfold eqCells at he; rw [if_pos rfl] at he
                        cases hb' : eqCells cx cy with
                        | none => rw [hb'] at he; cases he
                        | some b' =>
                          rw [hb'] at he; exact fin (eqI x y) b' hb' (Option.some.inj he).symm hx hy (agg _ hu trivial) (run_equalIn_int w d f.type k k' x y hu)
                      | _ => cases h3
                  | bool =>
                    have ea := bool_inv rv; have eb := bool_inv rv'; subst ea; subst eb
                    cases hu : P.underlying f.type with
                    | none => rw [hu] at h3; cases h3
                    | some dsc =>
                      rw [hu] at h3
                      cases dsc with
                      | bool =>
                        unfold eqCells at he
                        cases hb' : eqCells cx cy with
                        | none => rw [hb'] at he; cases he
                        | some b' =>
                          rw [hb'] at he; exact fin (eqB x y) b' hb' (Option.some.inj he).symm hx hy (agg _ hu trivial) (run_equalIn_bool' w d f.type x y hu)
                      | _ => cases h3
                  | str =>
                    have ea := str_inv rv; have eb := str_inv rv'; subst ea; subst eb
                    cases hu : P.underlying f.type with
                    | none => rw [hu] at h3; cases h3
                    | some dsc =>
                      rw [hu] at h3
                      cases dsc with
                      | string =>
                        unfold eqCells at he
                        cases hb' : eqCells cx cy with
                        | none => rw [hb'] at he; cases he
                        | some b' =>
                          rw [hb'] at he; exact fin (eqS x y) b' hb' (Option.some.inj he).symm hx hy (agg _ hu trivial) ((run_equalIn_string w d f.type x y hu).trans (congrArg (fun z => Result.ok z w) (beq_toListBytes (show ByteArray from x) (show ByteArray from y)).symm))
                      | _ => cases h3
                  | slice _ => cases he
                  | unit => cases he
                  | pair _ _ => cases he
                  | rose _ => cases he
            | _ => cases hy
          | _ => cases hx
theorem eqStruct_guard {Γ : Tab} (T : TabOK Γ P) {t : TypeId} {xs ys : List Cell} {b : Bool} (h : eqStruct Γ t xs ys = some b) : P.eqGuardType P.depth t = false := by
  unfold eqStruct at h
  cases he : Γ.eqs t with
  | none => rw [he] at h; cases h
  | some ts => exact (T.eqs t ts he).2.2.1
theorem eqStruct_run {Γ : Tab} (T : TabOK Γ P) {t : TypeId} {objs : List AObj} {L1 L2 : Nat → Value} {F1 F2 : Nat → Prop} {xs ys : List Cell} {va vb : Value} {b : Bool} (ha : ValRep w objs L1 F1 (.agg xs) va) (hb : ValRep w objs L2 F2 (.agg ys) vb) (h : eqStruct Γ t xs ys = some b) :
    ∃ vs us : Array Value, va = .agg vs ∧ vb = .agg us ∧ (Op.equalIn 10000 t (.agg vs) (.agg us)).run P w = .ok b w := by
  unfold eqStruct at h
  cases he : Γ.eqs t with
  | none => rw [he] at h; cases h
  | some ts =>
    rw [he] at h; obtain ⟨e1, e2, e3, e4⟩ := T.eqs t ts he
    cases hs : yes2 (sameTys xs ts) (sameTys ys ts) with
    | false => simp only [hs] at h; cases h
    | true =>
      simp only [hs] at h; obtain ⟨s1, s2⟩ := yes2_and hs; obtain ⟨vs, rfl, hvs, rvs⟩ := ha; obtain ⟨us, rfl, hus, rus⟩ := hb; refine ⟨vs, us, rfl, rfl, ?_⟩; rw [show (10000 : Nat) = 9999 + 1 from rfl, run_equalIn_agg w 9999 t vs us e1 e2]
      refine eqFields_run (w := w) (L1 := L1) (L2 := L2) (F1 := F1) (F2 := F2) (objs := objs) 9998 vs us _ ts 0 xs ys b e4 s1 s2 h (fun j c hj => ?_) (fun j c hj => ?_)
      · have hlt : j < vs.size := by rw [hvs]; exact (List.getElem?_eq_some_iff.1 hj).1
        rw [Nat.zero_add]; exact ⟨vs[j], Array.getElem?_eq_getElem hlt, (rvs j c _ hj (Array.getElem?_eq_getElem hlt)).2⟩
      · have hlt : j < us.size := by rw [hus]; exact (List.getElem?_eq_some_iff.1 hj).1
        rw [Nat.zero_add]; exact ⟨us[j], Array.getElem?_eq_getElem hlt, (rus j c _ hj (Array.getElem?_eq_getElem hlt)).2⟩
theorem sound_bin (h : RelX K S a w L Bs) (T : TabOK Γ P) (op : BinOp) (t u : TypeId) (x y : Operand) (ho : o.op = .binOp op t x y u) {va vb : Val} (ha : S.val? x = some va) (hb : S.val? y = some vb)
    {g : Bool} {c : Cell} (hc : binCell Γ op t va vb = some (g, c)) (hk : chk g (k (S.put o.dst (.val (.one c)))) = some r) : Sound K P o a w k r := by
  obtain ⟨hg, hk⟩ := chk_some hk; have ra := h.val ha; have rb := h.val hb
  have fin : ∀ v, plainCell c = true → v = cellVal c → (do eqGuard op t x y (a.eval x) (a.eval y); binOp op t (a.eval x) (a.eval y) : Sem Value).run P w = .ok v w → Sound K P o a w k r := by
    intro v hp hv hr
    refine sound_pure h (s := .val (.one c)) (v := v) (by rw [hv]; exact plain_rep c hp) ?_ hk
    rw [execOp_bin _ op t u x y ho]; simp only [Sem.run_bind, Sem.run_pure] at hr ⊢; rw [hr]; rfl
  unfold binCell at hc; split at hc
  · rename_i q1 m q2 n
    cases hc; have ea := int_inv ra.2; have eb := int_inv rb.2; have hy : (0 : Int) ≤ (show Int from n) := of_decide_eq_true hg; refine fin _ rfl rfl ?_; rw [ea, eb]
    exact (guard_int (P := P) (w := w) _ t x y q1 q2 m n _).trans (run_shift (P := P) (w := w) .shl t q1 q2 m n hy (.inl rfl))
  · rename_i q1 m q2 n
    cases hc; have ea := int_inv ra.2; have eb := int_inv rb.2; have hy : (0 : Int) ≤ (show Int from n) := of_decide_eq_true hg; refine fin _ rfl rfl ?_; rw [ea, eb]
    exact (guard_int (P := P) (w := w) _ t x y q1 q2 m n _).trans (run_shift (P := P) (w := w) .shr t q1 q2 m n hy (.inr rfl))
  · split at hc
    · rename_i hkk
      subst hkk; have ea := int_inv ra.2; have eb := int_inv rb.2; obtain ⟨hp, hr⟩ := run_intBin (P := P) (w := w) op t _ _ _ g c hc hg; refine fin _ hp rfl ?_; rw [ea, eb]
      exact (guard_int (P := P) (w := w) op t x y _ _ _ _ _).trans hr
    · cases hc
  · have ea := str_inv ra.2
    have eb := str_inv rb.2; obtain ⟨hp, hr⟩ := run_strBin (P := P) (w := w) op t _ _ g c hc hg; refine fin _ hp rfl ?_; rw [ea, eb]
    exact (guard_str (P := P) (w := w) op t x y _ _ _).trans hr
  · split at hc
    · rename_i hu
      cases hc; have ea := bool_inv ra.2; have eb := bool_inv rb.2; refine fin _ rfl rfl ?_; rw [ea, eb]; exact run_eqlBool .eql t x y _ _ (T.und _ _ hu) (.inl rfl)
    · cases hc
  · split at hc
    · rename_i hu
      cases hc; have ea := bool_inv ra.2; have eb := bool_inv rb.2; refine fin _ rfl rfl ?_; rw [ea, eb]; exact run_eqlBool .neq t x y _ _ (T.und _ _ hu) (.inr rfl)
    · cases hc
  · rename_i xs ys
    cases hq : eqStruct Γ t xs ys with
    | none => rw [hq] at hc; cases hc
    | some b =>
      rw [hq] at hc; cases hc; obtain ⟨vs, us, hva, hvb, hr⟩ := eqStruct_run (P := P) T ra rb hq; refine fin (.bool b) rfl rfl ?_; rw [hva, hvb]; simp only [Sem.run_bind, run_eqGuard_agg _ _ _ _ _ _ _ (eqStruct_guard T hq), Result.andThen_ok, run_eql_struct, hr]
  · rename_i xs ys
    cases hq : eqStruct Γ t xs ys with
    | none => rw [hq] at hc; cases hc
    | some b =>
      rw [hq] at hc; cases hc; obtain ⟨vs, us, hva, hvb, hr⟩ := eqStruct_run (P := P) T ra rb hq; refine fin (.bool !b) rfl rfl ?_; rw [hva, hvb]; simp only [Sem.run_bind, run_eqGuard_agg _ _ _ _ _ _ _ (eqStruct_guard T hq), Result.andThen_ok, run_neq_struct, hr]
  · cases hc

theorem sound_un (h : RelX K S a w L Bs) (op : UnOp) (t : TypeId) (x : Operand) (ho : o.op = .unOp op t x) {c : Cell} (hc : unCell op (S.cell x) = some c) (hk : k (S.put o.dst (.val (.one c))) = some r) : Sound K P o a w k r := by
  have fin : ∀ v, plainCell c = true → v = cellVal c → (Op.unary op (a.eval x)).run P w = .ok v w → Sound K P o a w k r := by
    intro v hp hv hr
    refine sound_pure h (s := .val (.one c)) (v := v) (by rw [hv]; exact plain_rep c hp) ?_ hk
    simp only [execOp, ho, Sem.run_bind, Sem.run_pure, hr, Result.andThen_ok]
  unfold unCell at hc; split at hc
  · rename_i q n hx
    cases hc; have ea := int_inv (h.cell hx (by simp)).2; refine fin _ rfl rfl ?_; rw [ea]
    simp [Op.unary, Op.intArith, negC, cellVal]
  · rename_i q n hx
    cases hc; have ea := int_inv (h.cell hx (by simp)).2; refine fin _ rfl rfl ?_; rw [ea]
    simp [Op.unary, Op.intBits, complC, cellVal]
  · rename_i n hx
    cases hc; have ea := bool_inv (h.cell hx (by simp)).2; refine fin _ rfl rfl ?_; rw [ea]
    simp [Op.unary, notC, cellVal]
  · cases hc

end
end Go.Proofs.GR

namespace Go.Proofs.GR

theorem Rep.flat {w : World} : ∀ (t : Ty) (x : t.den) (cs : List Value) (F : List Nat), t.flat = true → Rep w t x cs F → F = []
  | .int _, _, _, _, _, h => h.2
  | .bool, _, _, _, _, h => h.2
  | .str, _, _, _, _, h => h.2
  | .unit, _, _, _, _, h => h.2
  | .pair a b, x, cs, F, hf, ⟨c1, c2, F1, F2, h1, h2, hc, hF⟩ => by
    simp only [Ty.flat, yes2] at hf; cases ha : a.flat <;> rw [ha] at hf <;> simp at hf; rw [hF, Rep.flat a _ _ _ ha h1, Rep.flat b _ _ _ hf h2]; rfl
  | .slice _, _, _, _, hf, _ => by cases hf
  | .rose _, _, _, _, hf, _ => by cases hf

theorem Rep.cells {w : World} {objs : List AObj} {L : Nat → Value} {own : Nat → Prop} : ∀ (t : Ty) (x : t.den) (vs : List Value) (F : List Nat), Rep w t x vs F → (∀ b ∈ F, ¬ own b) →
    (t.cells x).length = vs.length ∧ ∀ (i : Nat) c u, (t.cells x)[i]? = some c → vs[i]? = some u → u.oneCell' = true ∧ CellRep w objs L own c u
  | .int k, x, vs, F, h, hF => by
    rw [h.1]; refine ⟨rfl, fun i c u hc hu => ?_⟩
    cases i with
    | zero => cases hc; cases hu; exact ⟨rfl, F, ⟨rfl, h.2⟩, hF⟩
    | succ i => simp at hu
  | .bool, x, vs, F, h, hF => by
    rw [h.1]; refine ⟨rfl, fun i c u hc hu => ?_⟩
    cases i with
    | zero => cases hc; cases hu; exact ⟨rfl, F, ⟨rfl, h.2⟩, hF⟩
    | succ i => simp at hu
  | .str, x, vs, F, h, hF => by
    rw [h.1]; refine ⟨rfl, fun i c u hc hu => ?_⟩
    cases i with
    | zero => cases hc; cases hu; exact ⟨rfl, F, ⟨rfl, h.2⟩, hF⟩
    | succ i => simp at hu
  | .unit, x, vs, F, h, hF => by
    rw [h.1]; exact ⟨rfl, fun i c u hc hu => by simp at hu⟩
  | .slice t, x, vs, F, h, hF => by
    have hlen := Rep.len _ _ _ _ h; have hone := Rep.one _ _ _ _ h
    cases vs with
    | nil => simp [Ty.sz] at hlen
    | cons v vs =>
      cases vs with
      | cons _ _ => simp [Ty.sz] at hlen
      | nil =>
        refine ⟨rfl, fun i c u hc hu => ?_⟩
        cases i with
        | zero => cases hc; cases hu; exact ⟨hone _ (by simp), F, h, hF⟩
        | succ i => simp at hu
  | .pair a b, x, vs, F, ⟨c1, c2, F1, F2, h1, h2, hc, hF'⟩, hF => by
    subst hF'; obtain ⟨l1, r1⟩ := Rep.cells (objs := objs) (L := L) (own := own) a x.1 c1 F1 h1 (fun b hb => hF b (List.mem_append_left _ hb)); obtain ⟨l2, r2⟩ := Rep.cells (objs := objs) (L := L) (own := own) b x.2 c2 F2 h2 (fun b hb => hF b (List.mem_append_right _ hb)); subst hc; simp only [Ty.cells, lapp_eq]; refine ⟨by simp [l1, l2], fun i c u hc hu => ?_⟩
    by_cases hi : i < c1.length
    · rw [List.getElem?_append_left (by omega)] at hc
      rw [List.getElem?_append_left hi] at hu; exact r1 i c u hc hu
    · rw [List.getElem?_append_right (by omega)] at hc
      rw [List.getElem?_append_right (by omega)] at hu; rw [l1] at hc; exact r2 _ c u hc hu
  | .rose t, x, vs, F, h, hF => by
    obtain ⟨c1, c2, F1, F2, h1, h2, hc, hF'⟩ := Rep.rose_iff.1 h; subst hF'; obtain ⟨l1, r1⟩ := Rep.cells (objs := objs) (L := L) (own := own) t (Rose.a x) c1 F1 h1 (fun b hb => hF b (List.mem_append_left _ hb)); obtain ⟨A, c0, hc2, h3⟩ := h2; subst hc2; subst hc; simp only [Ty.cells, lapp_eq]; refine ⟨by simp [l1], fun i c u hc hu => ?_⟩
    by_cases hi : i < c1.length
    · rw [List.getElem?_append_left (by omega)] at hc
      rw [List.getElem?_append_left hi] at hu; exact r1 i c u hc hu
    · rw [List.getElem?_append_right (by omega)] at hc
      rw [List.getElem?_append_right (by omega)] at hu; rw [l1] at hc
      cases hj : i - c1.length with
      | zero =>
        rw [hj] at hc hu; cases hc; cases hu; exact ⟨rfl, F2, ⟨A, c0, rfl, h3⟩, fun b hb => hF b (List.mem_append_right _ hb)⟩
      | succ j => rw [hj] at hc; simp at hc

theorem yes2_true {a b : Bool} (h : yes2 a b = true) : a = true ∧ b = true := by
  cases a <;> simp_all [yes2]

theorem part_leaf {w : World} (t : Ty) (x : t.den) (vs : List Value) (F : List Nat) (off n : Nat) (q : Sigma Ty.den) (hp : (bif yes2 (Nat.beq off 0) (Nat.beq n t.sz) then some (⟨t, x⟩ : Sigma Ty.den) else none) = some q) (h : Rep w t x vs F) :
    off + n ≤ vs.length ∧ n = q.1.sz ∧ ∃ F', (∀ b ∈ F', b ∈ F) ∧ Rep w q.1 q.2 ((vs.drop off).take n) F' := by
  cases hc : yes2 (Nat.beq off 0) (Nat.beq n t.sz) <;> rw [hc] at hp <;> simp at hp; obtain ⟨h0, h1⟩ := yes2_true hc; have e0 : off = 0 := Nat.eq_of_beq_eq_true h0; have e1 : n = t.sz := Nat.eq_of_beq_eq_true h1; subst hp; have hl := Rep.len _ _ _ _ h; subst e0; subst e1; refine ⟨by omega, rfl, F, fun b hb => hb, ?_⟩
  have : (vs.drop 0).take t.sz = vs := by rw [List.drop_zero, ← hl, List.take_length]
  rw [this]; exact h

theorem Rep.part {w : World} : ∀ (t : Ty) (x : t.den) (vs : List Value) (F : List Nat) (off n : Nat) (q : Sigma Ty.den), t.part x off n = some q → Rep w t x vs F →
    off + n ≤ vs.length ∧ n = q.1.sz ∧ ∃ F', (∀ b ∈ F', b ∈ F) ∧ Rep w q.1 q.2 ((vs.drop off).take n) F'
  | .pair a b, x, vs, F, off, n, q, hp, h => by
    simp only [Ty.part] at hp; cases hc : yes2 (Nat.beq off 0) (Nat.beq n (Nat.add a.sz b.sz)) <;> rw [hc] at hp <;> simp only [cond_true, cond_false] at hp
    · obtain ⟨c1, c2, F1, F2, h1, h2, hcs, hF⟩ := h
      have l1 := Rep.len _ _ _ _ h1; subst hF; cases hd : Nat.ble (Nat.add off n) a.sz <;> rw [hd] at hp <;> simp only [cond_true, cond_false] at hp
      · cases he : Nat.ble a.sz off <;> rw [he] at hp <;> simp only [cond_true, cond_false] at hp
        · cases hp
        · have e : a.sz ≤ off := Nat.le_of_ble_eq_true he
          obtain ⟨g1, g2, F', g3, g4⟩ := Rep.part b x.2 c2 F2 (Nat.sub off a.sz) n q hp h2; have es : Nat.sub off a.sz = off - a.sz := rfl; rw [es] at g1 g4; subst hcs; refine ⟨by simp; omega, g2, F', fun b hb => List.mem_append_right _ (g3 b hb), ?_⟩; rw [List.drop_append, show List.drop off c1 = [] from List.drop_eq_nil_of_le (by omega), List.nil_append, l1]; exact g4
      · have e : off + n ≤ a.sz := Nat.le_of_ble_eq_true hd
        obtain ⟨g1, g2, F', g3, g4⟩ := Rep.part a x.1 c1 F1 off n q hp h1; subst hcs; refine ⟨by simp; omega, g2, F', fun b hb => List.mem_append_left _ (g3 b hb), ?_⟩; rw [List.drop_append_of_le_length (by omega), List.take_append_of_le_length (by simp; omega)]; exact g4
    · exact part_leaf (.pair a b) x vs F off n q (by simp only [Ty.sz]; rw [hc]; exact hp) h
  | .int k, x, vs, F, off, n, q, hp, h => part_leaf (.int k) x vs F off n q hp h
  | .bool, x, vs, F, off, n, q, hp, h => part_leaf .bool x vs F off n q hp h
  | .str, x, vs, F, off, n, q, hp, h => part_leaf .str x vs F off n q hp h
  | .unit, x, vs, F, off, n, q, hp, h => part_leaf .unit x vs F off n q hp h
  | .slice t, x, vs, F, off, n, q, hp, h => part_leaf (.slice t) x vs F off n q hp h
  | .rose t, x, vs, F, off, n, q, hp, h => by
    simp only [Ty.part] at hp; cases hc : yes2 (Nat.beq off 0) (Nat.beq n (Nat.add t.sz 1)) <;> rw [hc] at hp <;> simp only [cond_true, cond_false] at hp
    · obtain ⟨c1, c2, F1, F2, h1, h2, hcs, hF⟩ := Rep.rose_iff.1 h
      have l1 := Rep.len _ _ _ _ h1; subst hF; cases hd : Nat.ble (Nat.add off n) t.sz <;> rw [hd] at hp <;> simp only [cond_true, cond_false] at hp
      · cases he : yes2 (Nat.beq off t.sz) (Nat.beq n 1) <;> rw [he] at hp <;> simp only [cond_true, cond_false] at hp
        · cases hp
        · cases hp
          have e0 : off = t.sz := Nat.eq_of_beq_eq_true (yes2_true he).1; have e1 : n = 1 := Nat.eq_of_beq_eq_true (yes2_true he).2; have h2' := h2; obtain ⟨A, c0, hc2, _⟩ := h2'; subst e1; subst hcs; refine ⟨by rw [hc2]; simp; omega, rfl, F2, fun b hb => List.mem_append_right _ hb, ?_⟩; rw [List.drop_append, show List.drop off c1 = [] from List.drop_eq_nil_of_le (by omega), List.nil_append, show off - c1.length = 0 by omega, List.drop_zero, List.take_of_length_le (by rw [hc2]; exact Nat.le_refl _)]; exact h2
      · have e : off + n ≤ t.sz := Nat.le_of_ble_eq_true hd
        obtain ⟨g1, g2, F', g3, g4⟩ := Rep.part t (Rose.a x) c1 F1 off n q hp h1; subst hcs; refine ⟨by simp; omega, g2, F', fun b hb => List.mem_append_left _ (g3 b hb), ?_⟩; rw [List.drop_append_of_le_length (by omega), List.take_append_of_le_length (by simp; omega)]; exact g4
    · exact part_leaf (.rose t) x vs F off n q (by simp only [Ty.sz]; rw [hc]; exact hp) h

section
variable {K : Start} {P : Program} {Γ : Tab} {o : Oper} {S : St} {a : Act} {w : World} {L : Nat → Value} {Bs : Nat → List Nat} {ρ : Type} {k : St → Option ρ} {r : ρ}

theorem cellsAt_take {ad : Addr} {vs : List Value} (h : CellsAt w ad vs) (off n : Nat) : CellsAt w (ad.add off) ((vs.drop off).take n) := by
  intro j v hj; rw [add_add]; refine h _ _ ?_; rw [List.getElem?_take] at hj; split at hj
  · rwa [List.getElem?_drop] at hj
  · cases hj

theorem lget_obj {S : St} {o : Nat} {x : AObj} (h : S.obj o = x) (hx : x ≠ .dead) : S.objs[o]? = some x := by
  unfold St.obj at h; rw [lget_eq, List.getD] at h
  cases he : S.objs[o]? with
  | none => rw [he] at h; exact absurd h.symm hx
  | some y => rw [he] at h; simpa using h

theorem row_cells {t : Ty} {xs : List t.den} {d : Bool} {o : Nat} {own : Nat → Prop} {objs : List AObj} {B : List Nat} (h : ObjRep w objs L own o (.row t xs d) B) {g c : Nat} (hL : L o = .slice (some ⟨g, 0, none⟩) xs.length c)
    {i : Nat} {x : t.den} (hi : xs[i]? = some x) : ∃ vs F, CellsAt w ((⟨g, 0, none⟩ : Addr).add (i * t.sz)) vs ∧ vs.length = t.sz ∧ Rep w t x vs F ∧ (d = false → ∀ b ∈ F, ¬ own b) := by
  obtain ⟨css, Fs, h1, h2, h3⟩ := h; have hil : i < xs.length := (List.getElem?_eq_some_iff.1 hi).1
  have hl : ∀ i, i < xs.length → (css i).length = t.sz := fun i hi => (h2 i _ (List.getElem?_eq_getElem hi)).1
  obtain ⟨F, hrep, hsub⟩ := ERep.rep (h2 i x hi).2; refine ⟨css i, F, fun j v hj => ?_, hl i hil, hrep, fun hd b hb => ?_⟩
  · have hjl : j < t.sz := by rw [← hl i hil]; exact (List.getElem?_eq_some_iff.1 hj).1
    rw [add_add]; refine OwnRow.cells h1 (by rw [hL]; rfl) _ _ ?_; rw [flatN_at _ hl i j hil hjl]; exact hj
  · subst hd
    simp only [Bool.false_eq_true, if_false] at h3; exact h3.2 b (mem_flatN.2 ⟨i, hil, hsub.subset hb⟩)

theorem load_cells (h : RelX K S a w L Bs) {c : Cell} {v : Value} (hv : CellRep w S.objs L (Forb K S.objs.length Bs) c v) {n : Nat} {cs : List Cell} (hl : S.loadCells c n = some cs) :
    ∃ ad vs, v = .pointer (some ad) ∧ CellsAt w ad vs ∧ vs.length = n ∧ cs.length = n ∧ ∀ (i : Nat) c u, cs[i]? = some c → vs[i]? = some u → u.oneCell' = true ∧ CellRep w S.objs L (Forb K S.objs.length Bs) c u := by
  unfold St.loadCells at hl; split at hl
  · rename_i q off
    split at hl
    · rename_i t bs ho
      cases hb : Nat.ble (Nat.add off n) (llen bs) <;> rw [hb] at hl <;> simp only [cond_true, cond_false] at hl
      · cases hl
      cases hl
      have hle : off + n ≤ bs.length := by have := Nat.le_of_ble_eq_true hb; rwa [llen_eq] at this
      have hob := lget_obj ho (by simp); obtain ⟨b, hL, hp⟩ := hv.2 t bs hob; obtain ⟨b', cells, h1, h2, h3, h4, h5⟩ := h.objs.obj q _ hob; rw [hL] at h1; cases h1; refine ⟨_, (cells.toList.drop off).take n, hp, ?_, by simp; omega, by simp [ltake_eq, ldrop_eq]; omega, fun i c u hc hu => ?_⟩
      · refine cellsAt_take (ad := ⟨b, 0, none⟩) (fun j v hj => ?_) off n
        have hadd : (⟨b, 0, none⟩ : Addr).add j = ⟨b, j, none⟩ := by unfold Addr.add; split <;> simp_all
        rw [hadd, cell_of_row w b j cells t (0, 0) h2]
        simpa using hj
      · rw [ltake_eq, ldrop_eq, List.getElem?_take] at hc
        rw [List.getElem?_take] at hu; split at hc
        · rename_i hin
          rw [if_pos hin, List.getElem?_drop] at hu; rw [List.getElem?_drop] at hc; exact h5 (off + i) c u hc (by simpa using hu)
        · cases hc
    · cases hl
  · rename_i q i off
    split at hl
    · rename_i t xs d ho
      split at hl
      · rename_i t' x hp
        cases hb : (bif d then t'.flat else true) <;> rw [hb] at hl <;> simp only [cond_true, cond_false] at hl
        · cases hl
        cases hl; have hob := lget_obj ho (by simp); obtain ⟨hi, g, cap, hL, hv⟩ := hv.2 t xs d (.inl hob)
        have hx : xs[i]? = some (xs.getD i t.dflt) := by simp [List.getD, List.getElem?_eq_getElem hi]
        obtain ⟨vs, F, hc, hlen, hr, hF⟩ := row_cells (h.objs.obj q _ hob) hL hx; obtain ⟨p1, p2, F', p3, p4⟩ := Rep.part t _ vs F off n _ hp hr
        have hown : ∀ b ∈ F', ¬ Forb K S.objs.length Bs b := by
          intro b hb'
          cases d with
          | false => exact hF rfl b (p3 b hb')
          | true =>
            have := Rep.flat t' _ _ _ hb p4; subst this; exact absurd hb' (by simp)
        obtain ⟨r1, r2⟩ := Rep.cells (objs := S.objs) (L := L) _ _ _ _ p4 hown; refine ⟨_, (vs.drop off).take n, hv, ?_, by simp; omega, by rw [r1]; simp; omega, r2⟩; rw [← add_add]; exact cellsAt_take hc off n
      · cases hl
    · cases hl
  · rename_i t x
    cases hb : Nat.beq t.sz n <;> rw [hb] at hl <;> simp only [cond_true, cond_false] at hl
    · cases hl
    cases hl; have hn : t.sz = n := Nat.eq_of_beq_eq_true hb; obtain ⟨ad, cs, F, hv, hc, hr, hn2, hF⟩ := hv; obtain ⟨r1, r2⟩ := Rep.cells (objs := S.objs) (L := L) _ _ _ _ hr hF; have := Rep.len _ _ _ _ hr; exact ⟨ad, cs, hv, hc, by omega, by omega, r2⟩
  · cases hl

theorem run_loadAt (T : TabOK Γ P) {t : TypeId} {n : Nat} (hn : Γ.size t = some n) {cs : List Cell} {v : Val} (hv : Γ.ofCells t cs = some v) {ad : Addr} {vs : List Value} (hc : CellsAt w ad vs) (hl : vs.length = n) (hcl : cs.length = n)
    {own : Nat → Prop} (hr : ∀ (i : Nat) c u, cs[i]? = some c → vs[i]? = some u → u.oneCell' = true ∧ CellRep w S.objs L own c u) :
    ∃ u, (loadVar t ad).run P w = .ok u w ∧ ValRep w S.objs L own v u := by
  unfold Tab.size at hn; split at hn
  · rename_i z n' b hi
    cases hn; obtain ⟨i, hi, _, hs, _, _⟩ := T.info _ _ _ _ hi; unfold Tab.ofCells at hv; split at hv
    · rename_i ha
      cases hv; refine ⟨.agg vs.toArray, ?_, vs.toArray, rfl, by simp; omega, fun j c u h1 h2 => hr j c u h1 (by simpa using h2)⟩
      have hag : (isAgg t).run P w = .ok true w := by
        unfold Tab.agg at ha; unfold isAgg; split at ha
        · rename_i fs hu; simp [run_underlying (T.und _ _ hu)]
        · rename_i l e hu; simp [run_underlying (T.und _ _ hu)]
        · cases ha
        · cases ha
      have hld := run_loadCells_list (P := P) (w := w) ad vs hc
      simp [loadVar, hag, sizeOf, typeInfo, hi, hs, ← hl, hld]
    · rename_i c ha
      cases hv; simp only [List.length_cons, List.length_nil] at hcl
      cases vs with
      | nil => simp at hl; omega
      | cons u us =>
        obtain ⟨h1, h2⟩ := hr 0 c u rfl rfl; refine ⟨u, ?_, h1, h2⟩
        have hag : (isAgg t).run P w = .ok false w := by
          unfold Tab.agg at ha; unfold isAgg; split at ha
          · cases ha
          · cases ha
          · rename_i d h3 h4 hu
            simp only [Sem.run_bind, run_underlying (T.und _ _ hu), Result.andThen_ok]; rfl
          · cases ha
        have hcell := hc 0 u rfl
        have hadd : ad.add 0 = ad := by simp [Addr.add]
        rw [hadd] at hcell
        simp [loadVar, hag, hcell]
    · cases hv
  · cases hn

theorem sound_load (h : RelX K S a w L Bs) (T : TabOK Γ P) (t : TypeId) (x : Operand) (ho : o.op = .load t x) {n : Nat} (hn : Γ.size t = some n) {cs : List Cell} (hl : S.loadCells (S.cell x) n = some cs) {v : Val} (hv : Γ.ofCells t cs = some v)
    (hk : k (S.put o.dst (.val v)) = some r) : Sound K P o a w k r := by
  have hne : S.cell x ≠ .nix := by intro e; rw [e] at hl; simp [St.loadCells] at hl
  obtain ⟨ad, vs, e, hc, hl1, hl2, hr⟩ := load_cells h (h.cell rfl hne).2 hl; obtain ⟨u, hu, hrep⟩ := run_loadAt (S := S) (L := L) T hn hv hc hl1 hl2 hr
  refine sound_pure h (s := .val v) (v := u) hrep ?_ hk
  simp [execOp, ho, Instr.loadAt, Instr.sureAddr, e, hu]

end
end Go.Proofs.GR

namespace Go.Proofs.GR

section
variable {K : Start} {P : Program} {Γ : Tab} {o : Oper} {S : St} {a : Act} {w : World} {L : Nat → Value} {Bs : Nat → List Nat} {ρ : Type} {k : St → Option ρ} {r : ρ}

theorem RelX.newBox (h : RelX K S a w L Bs) (t : TypeId) (cs : List Cell) (vs : Array Value) (hs : vs.size = cs.length) {m : Nat} (hm : isFree S.objs m = true)
    (hr : ∀ (i : Nat) c u, cs[i]? = some c → vs[i]? = some u → u.oneCell' = true ∧ CellRep w S.objs L (Forb K S.objs.length Bs) c u) (d : Option Tmp) :
    ∃ L' Bs', RelX K ((S.place m (.box t cs)).put d (.val (.one (.ptr m 0)))) (a.put d (.pointer (some ⟨w.heap.size, 0, none⟩))) (w.alloc (.cells vs t)) L' Bs' := by
  have hg : w.grownBy (w.alloc (.cells vs t)) none := World.grownBy_alloc w _ none
  obtain ⟨L', Bs', R, hL, hlive⟩ := h.take (w' := w.alloc (.cells vs t)) (B := [w.heap.size]) hg.os hg.tape hg.output hg.size [] (fun b hb _ => hg.block b hb (by simp)) m hm (.box t cs) rfl (.pointer (some ⟨w.heap.size, 0, none⟩))
    (by intro b hb; simp at hb; subst hb; exact .inr ⟨Nat.le_refl _, by simp⟩) (by simp)
    (fun objs' L' own' hc hL' _ => ⟨w.heap.size, vs, hL', heap_alloc_new w _, hs, rfl, fun i c v h1 h2 => ⟨(hr i c v h1 h2).1, hc _ _ (hr i c v h1 h2).2⟩⟩)
  exact ⟨L', Bs', R.put d (s := .val (.one (.ptr m 0))) (v := .pointer (some ⟨w.heap.size, 0, none⟩)) ⟨rfl, hlive, fun t' cs' hx => ⟨w.heap.size, hL, by simp [Addr.add]⟩⟩⟩

theorem sound_box (h : RelX K S a w L Bs) (t : TypeId) (x : Operand) (ho : o.op = .box t x) {v : Val} (hv : S.val? x = some v) {m : Nat} (hm : isFree S.objs m = true)
    (hk : k ((S.place m (.box t v.cells)).put o.dst (.val (.one (.ptr m 0)))) = some r) : Sound K P o a w k r := by
  have rv := h.val hv
  have hcells : (a.eval x).cells.size = v.cells.length ∧ ∀ (i : Nat) c u, v.cells[i]? = some c → (a.eval x).cells[i]? = some u → u.oneCell' = true ∧ CellRep w S.objs L (Forb K S.objs.length Bs) c u := by
    cases v with
    | one c =>
      obtain ⟨h1, h2⟩ := rv
      have hce : (a.eval x).cells = #[a.eval x] := by cases hx : a.eval x <;> rw [hx] at h1 <;> first | rfl | simp [Value.oneCell'] at h1
      rw [hce]; refine ⟨rfl, fun i c' u hc hu => ?_⟩
      cases i with
      | zero => cases hc; simp at hu; subst hu; exact ⟨h1, h2⟩
      | succ i => simp [Val.cells] at hc
    | agg cs =>
      obtain ⟨vs, h1, h2, h3⟩ := rv; rw [h1]; exact ⟨h2, fun i c u hc hu => h3 i c u hc hu⟩
  obtain ⟨L', Bs', R⟩ := h.newBox t v.cells (a.eval x).cells hcells.1 hm hcells.2 o.dst
  refine ⟨_, hk, fun _ _ hn => upon_value (w' := w.alloc (.cells (a.eval x).cells t)) ?_ (hn _ _ R.rel)⟩
  simp [execOp, ho, Instr.box, newVar, newRow]

theorem sound_alloc (h : RelX K S a w L Bs) (T : TabOK Γ P) (t : TypeId) (ho : o.op = .alloc t) {z : List Cell} (hz : Γ.zero t = some z) {m : Nat} (hm : isFree S.objs m = true)
    (hk : k ((S.place m (.box t z)).put o.dst (.val (.one (.ptr m 0)))) = some r) : Sound K P o a w k r := by
  unfold Tab.zero at hz; split at hz
  · rename_i zv n b hi
    cases hz; obtain ⟨i, hi1, hi2, hi3, hi4, hi5⟩ := T.info _ _ _ _ hi; have h1 := T.zero1 _ _ _ _ hi
    obtain ⟨L', Bs', R⟩ := h.newBox t (zv.cells.toList.map ofConst) zv.cells (by simp) hm (fun j c u hc hu => by
      rw [List.getElem?_map] at hc
      have hu' : zv.cells.toList[j]? = some u := by simpa using hu
      rw [hu'] at hc; cases hc; refine ⟨h1 u (List.mem_of_getElem? hu'), ?_⟩
      by_cases hne : ofConst u = .nix
      · rw [hne]; trivial
      · exact (const_rep _ _ u hne).2) o.dst
    refine ⟨_, hk, fun _ _ hn => upon_value (w' := w.alloc (.cells zv.cells t)) ?_ (hn _ _ R.rel)⟩
    simp [execOp, ho, Instr.alloc, zeroValue, typeInfo, hi1, hi2, newVar, newRow]
  · cases hz

theorem sound_nilCheck (h : RelX K S a w L Bs) (x : Operand) (ho : o.op = .nilCheck x) {c : Cell} (hc : S.cell x = c)
    (hp : match c with | .ptr q _ => (match S.obj q with | .box _ _ => true | _ => false) | .eptr q _ _ => (match S.obj q with | .row _ _ _ => true | _ => false) | .rptr _ _ | .fnL _ _ | .fn _ _ => true | _ => false)
    (hk : k (S.put o.dst (.val (.one c))) = some r) : Sound K P o a w k r := by
  have hne : c ≠ .nix := by rintro rfl; simp at hp
  obtain ⟨h1, h2⟩ := h.cell hc hne
  refine sound_pure h (s := .val (.one c)) (v := a.eval x) ⟨h1, h2⟩ ?_ hk
  have : (∃ ad, a.eval x = .pointer (some ad)) ∨ ∃ f vs, a.eval x = .func (.func f) #[] vs := by
    cases c with
    | ptr q off =>
      simp only at hp; split at hp
      · rename_i t cs hq
        obtain ⟨b, _, hv⟩ := h2.2 t cs (lget_obj hq (by simp)); exact .inl ⟨_, hv⟩
      · cases hp
    | eptr q i off =>
      simp only at hp; split at hp
      · rename_i t xs d hq
        obtain ⟨_, g, c, _, hv⟩ := h2.2 t xs d (.inl (lget_obj hq (by simp))); exact .inl ⟨_, hv⟩
      · cases hp
    | rptr t x => obtain ⟨ad, cs, F, hv, _⟩ := h2; exact .inl ⟨_, hv⟩
    | fnL f caps => obtain ⟨vs, hv, _⟩ := h2; exact .inr ⟨_, _, hv⟩
    | fn f caps => obtain ⟨vs, hv, _⟩ := h2; exact .inr ⟨_, _, hv⟩
    | _ => simp at hp
  rcases this with ⟨ad, hv⟩ | ⟨f, vs, hv⟩ <;> simp [execOp, ho, hv]

theorem sound_extract (h : RelX K S a w L Bs) (x : Operand) (i : Nat) (ho : o.op = .extract x i) {vs : List Val} (hx : S.get x = .tup vs) {v : Val} (hv : vs[i]? = some v)
    (hk : k (S.put o.dst (.val v)) = some r) : Sound K P o a w k r := by
  have := h.get x; rw [hx] at this; obtain ⟨us, h1, h2, h3⟩ := this
  have hi : i < us.size := by rw [h2]; exact (List.getElem?_eq_some_iff.1 hv).1
  have hu : us[i]? = some us[i] := Array.getElem?_eq_getElem hi
  refine sound_pure h (s := .val v) (v := us[i]) (h3 i v _ hv hu) ?_ hk
  simp [execOp, ho, Instr.extract, h1, hu]

theorem sound_convInt (h : RelX K S a w L Bs) (T : TabOK Γ P) (s t : TypeId) (x : Operand) (ho : o.op = .convert s t x) {q q' : IntKind} {n : Int} (hs : ∃ d, Γ.und s = some d) (ht : Γ.und t = some (.int q)) (hx : S.cell x = .dat (.int q') n)
    (hk : k (S.put o.dst (.val (.one (.dat (.int q) (q.wrap n))))) = some r) : Sound K P o a w k r := by
  obtain ⟨d, hs⟩ := hs; have e := int_inv (h.cell hx (by simp)).2
  refine sound_pure h (s := .val (.one (.dat (.int q) (q.wrap n)))) (v := .int q (q.wrap n)) (intCell _ _) ?_ hk
  simp [execOp, ho, convert, e, run_underlying (T.und _ _ hs), run_underlying (T.und _ _ ht), Conv.intToInt]

theorem sound_convStr (h : RelX K S a w L Bs) (T : TabOK Γ P) (s t : TypeId) (x : Operand) (ho : o.op = .convert s t x) {b : ByteArray} (hs : ∃ d, Γ.und s = some d) (ht : Γ.und t = some .string) (hx : S.cell x = .dat .str b)
    (hk : k (S.put o.dst (.val (.one (.dat .str b)))) = some r) : Sound K P o a w k r := by
  obtain ⟨d, hs⟩ := hs; have e := str_inv (h.cell hx (by simp)).2
  refine sound_pure h (s := .val (.one (.dat .str b))) (v := .string b) (strCell _) ?_ hk
  simp [execOp, ho, convert, e, run_underlying (T.und _ _ hs), run_underlying (T.und _ _ ht)]

theorem strBytes_get (s : ByteArray) (i : Nat) (h : i < s.size) : (strBytes s).getD i 0 = (s[i].toNat : Int) := by
  have h' : i < s.data.size := h; simp only [strBytes, List.getD, List.getElem?_map, Array.getElem?_toList, Array.getElem?_eq_getElem h']; rfl

theorem cellI_inv {c : Cell} {n : Int} (h : cellI c = some n) : ∃ q, c = .dat (.int q) n := by
  unfold cellI at h; split at h
  · cases h; exact ⟨_, rfl⟩
  · cases h

theorem sound_index (h : RelX K S a w L Bs) (T : TabOK Γ P) (t : TypeId) (x y : Operand) (ho : o.op = .index t x y) {s : ByteArray} {n : Int} (ht : Γ.und t = some .string) (hx : S.cell x = .dat .str s) (hy : cellI (S.cell y) = some n)
    (h0 : 0 ≤ n) (h1 : n < (s.size : Int)) (hk : k (S.put o.dst (.val (.one (.dat (.int .u8) ((strBytes s).getD n.toNat 0))))) = some r) : Sound K P o a w k r := by
  have e := str_inv (h.cell hx (by simp)).2; obtain ⟨q, hc⟩ := cellI_inv hy; have e2 := int_inv (h.cell hc (by simp)).2
  have hlt : n.toNat < s.size := by omega
  refine sound_pure h (s := .val (.one (.dat (.int .u8) ((strBytes s).getD n.toNat 0)))) (v := .int .u8 ((strBytes s).getD n.toNat 0)) (intCell _ _) ?_ hk
  rw [strBytes_get s _ hlt]
  have hg : s[n.toNat]? = some (s[n.toNat]'hlt) := by simp [hlt]
  simp only [execOp, ho, e, e2, Sem.run_bind, Instr.index, asIntOf, Sem.run_pure, Result.andThen_ok, run_underlying (T.und _ _ ht)]; rw [if_pos h0, hg]; rfl

theorem sound_fieldAddr (h : RelX K S a w L Bs) (T : TabOK Γ P) (s : TypeId) (x : Operand) (f : Nat) (ho : o.op = .fieldAddr s x f) {fl : Field} (hf : fieldOf Γ s f = some fl) {n : Nat} (hn : Γ.size fl.type = some n) (hpos : 0 < n)
    {c c' : Cell} (hx : S.cell x = c) (hv : ∀ v, v.oneCell' = true ∧ CellRep w S.objs L (Forb K S.objs.length Bs) c v → ∃ ad, v = .pointer (some ad) ∧ CellRep w S.objs L (Forb K S.objs.length Bs) c' (.pointer (some (ad.add fl.offset)))) (hne : c ≠ .nix)
    (hk : k (S.put o.dst (.val (.one c'))) = some r) : Sound K P o a w k r := by
  obtain ⟨ad, e, hc'⟩ := hv _ (h.cell hx hne)
  refine sound_pure h (s := .val (.one c')) (v := .pointer (some (ad.add fl.offset))) ⟨rfl, hc'⟩ ?_ hk
  unfold fieldOf at hf; split at hf
  · rename_i fs hu
    rw [lat?_eq] at hf
    have hf' : fs[f]? = some fl := by simpa using hf
    unfold Tab.size at hn; split at hn
    · rename_i z n' b hi
      cases hn; obtain ⟨i, hi, _, hs, _, _⟩ := T.info _ _ _ _ hi
      have hz : ¬ n = 0 := by omega
      simp [execOp, ho, e, Instr.fieldAt, Instr.sureAddr, run_underlying (T.und _ _ hu), hf', fieldPlace, sizeOf, typeInfo, hi, hs, hz]
    · cases hn
  · cases hf

end
end Go.Proofs.GR

namespace Go.Proofs.GR

section
variable {K : Start} {P : Program} {Γ : Tab} {o : Oper} {S : St} {a : Act} {w : World} {L : Nat → Value} {Bs : Nat → List Nat} {ρ : Type} {k : St → Option ρ} {r : ρ}

theorem field_ptr {objs : List AObj} {own : Nat → Prop} {q off n : Nat} {t : TypeId} {cs : List Cell} (hq : objs[q]? = some (.box t cs)) (v : Value) (hv : v.oneCell' = true ∧ CellRep w objs L own (.ptr q off) v) :
    ∃ ad, v = .pointer (some ad) ∧ CellRep w objs L own (.ptr q (Nat.add off n)) (.pointer (some (ad.add n))) := by
  obtain ⟨_, h1, h2⟩ := hv; obtain ⟨b, hL, hv⟩ := h2 t cs hq; refine ⟨_, hv, h1, fun t' cs' hq' => ⟨b, hL, ?_⟩⟩; rw [add_add]; rfl

theorem field_eptr {objs : List AObj} {own : Nat → Prop} {q i off n : Nat} {t : Ty} {xs : List t.den} {d : Bool} (hq : objs[q]? = some (.row t xs d)) (v : Value) (hv : v.oneCell' = true ∧ CellRep w objs L own (.eptr q i off) v) :
    ∃ ad, v = .pointer (some ad) ∧ CellRep w objs L own (.eptr q i (Nat.add off n)) (.pointer (some (ad.add n))) := by
  obtain ⟨_, h1, h2⟩ := hv; obtain ⟨hi, g, c, hL, hv⟩ := h2 t xs d (.inl hq); refine ⟨_, hv, h1, fun t' xs' d' hq' => ?_⟩
  replace hq' := hq'.of_row hq
  rw [hq] at hq'; cases hq'; refine ⟨hi, g, c, hL, ?_⟩; rw [add_add]
  simp [Nat.add_assoc]

theorem field_rptr {objs : List AObj} {own : Nat → Prop} {τ τ' : Ty} {x : τ.den} {y : τ'.den} {off n : Nat} (hp : τ.part x off n = some ⟨τ', y⟩) (hn : 0 < n) (v : Value) (hv : v.oneCell' = true ∧ CellRep w objs L own (.rptr τ x) v) :
    ∃ ad, v = .pointer (some ad) ∧ CellRep w objs L own (.rptr τ' y) (.pointer (some (ad.add off))) := by
  obtain ⟨_, ad, cs, F, hv, hc, hr, h1, h2⟩ := hv; obtain ⟨p1, p2, F', p3, p4⟩ := Rep.part τ x cs F off n _ hp hr; refine ⟨ad, hv, ad.add off, (cs.drop off).take n, F', rfl, cellsAt_take hc off n, p4, fun _ => ?_, fun b hb => h2 b (p3 b hb)⟩; rw [add_block]; apply h1
  rintro rfl
  simp at p1
  omega

theorem beq0_false {n : Nat} (h : Nat.beq n 0 = false) : 0 < n := by
  cases n with
  | zero => cases h
  | succ n => omega

theorem run_bounds {lo hi : Option Operand} {len : Nat} (h : RelX K S a w L Bs) {g : Bool} {l m : Nat} (hb : bounds S lo hi len = some (g, l, m)) (hg : g = true) (isS : Bool) (cap : Nat) (hcap : len ≤ cap) :
    l ≤ m ∧ m ≤ len ∧ (Instr.sliceBounds isS len cap (lo.map a.eval) (hi.map a.eval) none).run P w = .ok (l, m, cap) w := by
  unfold bounds at hb; split at hb
  · simp only [Option.some.injEq, Prod.mk.injEq] at hb
    obtain ⟨_, rfl, rfl⟩ := hb; exact ⟨Nat.zero_le _, Nat.le_refl _, by simp [Instr.sliceBounds]⟩
  · rename_i lx
    split at hb
    · rename_i n hn
      simp only [Option.some.injEq, Prod.mk.injEq] at hb; obtain ⟨h1, rfl, rfl⟩ := hb; subst hg
      simp at h1
      obtain ⟨q, hc⟩ := cellI_inv hn; have e := int_inv (h.cell hc (by simp)).2; refine ⟨by omega, Nat.le_refl _, ?_⟩
      simp [Instr.sliceBounds, Instr.sliceBound, asIntOf, e, h1]
    · cases hb
  · rename_i hx
    split at hb
    · rename_i n hn
      simp only [Option.some.injEq, Prod.mk.injEq] at hb; obtain ⟨h1, rfl, rfl⟩ := hb; subst hg
      simp at h1
      obtain ⟨q, hc⟩ := cellI_inv hn; have e := int_inv (h.cell hc (by simp)).2
      have h2 : n ≤ (cap : Int) := by omega
      refine ⟨Nat.zero_le _, by omega, ?_⟩
      simp [Instr.sliceBounds, Instr.sliceBound, asIntOf, e, h1.1, h2]
    · cases hb
  · rename_i lx hx
    split at hb
    · rename_i n m' hn hm
      simp only [Option.some.injEq, Prod.mk.injEq] at hb; obtain ⟨h1, rfl, rfl⟩ := hb; subst hg
      simp at h1
      obtain ⟨q, hc⟩ := cellI_inv hn; obtain ⟨q', hc'⟩ := cellI_inv hm; have e := int_inv (h.cell hc (by simp)).2; have e' := int_inv (h.cell hc' (by simp)).2
      have h2 : m' ≤ (cap : Int) := by omega
      have h3 : 0 ≤ m' := by omega
      have h4 : n ≤ ((m'.toNat : Nat) : Int) := by omega
      refine ⟨by omega, by omega, ?_⟩; simp only [Instr.sliceBounds, Instr.sliceBound, asIntOf, Option.map_some, e, e', Sem.run_bind, Sem.run_pure, Result.andThen_ok]; rw [if_pos ⟨h3, h2⟩]; simp only [Sem.run_pure, Result.andThen_ok]; rw [if_pos ⟨h1.1.1, h4⟩]
      simp
    · cases hb

theorem execOp_slice (ev : Operand → Value) {t : TypeId} {x : Operand} {lo hi : Option Operand} (ho : o.op = .slice t x lo hi none) : execOp ev o = (do let v ← Instr.sliceAt t (ev x) (lo.map ev) (hi.map ev) none; pure (.value v)) := by
  simp [execOp, ho]

theorem sound_sliceStr (h : RelX K S a w L Bs) (T : TabOK Γ P) {t : TypeId} {x : Operand} {lo hi : Option Operand} (ho : o.op = .slice t x lo hi none) (hu : Γ.und t = some .string) {s : ByteArray} (hx : S.cell x = .dat .str s)
    {g : Bool} {l m : Nat} (hb : bounds S lo hi s.size = some (g, l, m)) (hk : chk g (k (S.put o.dst (.val (.one (.dat .str (s.extract l m)))))) = some r) : Sound K P o a w k r := by
  obtain ⟨hg, hk⟩ := chk_some hk; have e := str_inv (h.cell hx (by simp)).2; obtain ⟨_, _, hr⟩ := run_bounds (P := P) h hb hg false s.size (Nat.le_refl _)
  refine sound_pure h (s := .val (.one (.dat .str (s.extract l m)))) (v := .string (s.extract l m)) (strCell _) ?_ hk
  rw [execOp_slice _ ho]; simp only [Sem.run_bind, Instr.sliceAt, run_underlying (T.und _ _ hu), Result.andThen_ok, Instr.slice, e]
  simp
  rw [hr]; rfl

theorem run_sliceRow (T : TabOK Γ P) (h : RelX K S a w L Bs) {t : TypeId} {x : Operand} {lo hi : Option Operand} (ho : o.op = .slice t x lo hi none) {sz : Nat} (he : elemSize Γ t = some sz) {A : Option Addr} {len c : Nat} (hv : a.eval x = .slice A len c) (hcap : len ≤ c)
    {g : Bool} {l m : Nat} (hb : bounds S lo hi len = some (g, l, m)) (hg : g = true) :
    l ≤ m ∧ m ≤ len ∧ (execOp a.eval o).run P w = .ok (.value (.slice (if c = l then A else A.map (·.add (l * sz))) (m - l) (c - l))) w ∨ Γ.und t = some .string := by
  obtain ⟨h1, h2, hr⟩ := run_bounds (P := P) h hb hg true c hcap; unfold elemSize at he; split at he
  · rename_i e hu
    refine .inl ⟨h1, h2, ?_⟩; unfold Tab.size at he; split at he
    · rename_i z n' b hi'
      cases he; obtain ⟨i, hi', _, hs, _, _⟩ := T.info _ _ _ _ hi'; rw [execOp_slice _ ho]; simp only [Sem.run_bind, Instr.sliceAt, run_underlying (T.und _ _ hu), Result.andThen_ok, Instr.slice, hv, hr, sizeOf, typeInfo]
      simp [hi', hs]
    · cases he
  · cases he

theorem rowAt_sub {τ : Ty} {A : Option Addr} {c : Nat} {xs : List τ.den} {F : List Nat} (h : RowAt w τ.sz (Rep w τ) A c xs F) {l m : Nat} (hlm : l ≤ m) (hm : m ≤ xs.length) :
    ∃ F', (∀ b ∈ F', b ∈ F) ∧ RowAt w τ.sz (Rep w τ) (if c = l then A else A.map (·.add (l * τ.sz))) (c - l) ((xs.drop l).take (m - l)) F' := by
  have hlen : ((xs.drop l).take (m - l)).length = m - l := by simp; omega
  have hle := h.le
  cases hA : A with
  | none =>
    obtain ⟨h1, h2, h3⟩ := h.nil hA; subst h1
    simp at hm
    have : l = 0 := by omega
    subst this; subst hm; refine ⟨[], by simp, ⟨by simp, by rw [h2]; simp, fun _ => ⟨by simp, by omega, rfl⟩, fun ad had => by rw [h2] at had; simp at had, fun ad had => by rw [h2] at had; simp at had⟩⟩
  | some ad =>
    obtain ⟨css, Fs, hF, hall⟩ := h.some_ ad hA
    by_cases hlt : l = m
    · subst hlt
      have he : (xs.drop l).take (l - l) = [] := by simp
      rw [he]
      refine ⟨[], by simp, ⟨by simp, by have := h.cap; omega, fun hn => ?_, fun _ _ hne => absurd rfl hne, fun ad' _ => ⟨css, Fs, by simp [flatN], fun i x hx => by simp at hx⟩⟩⟩
      split at hn
      · cases hn
      · simp at hn
    · have hcl : ¬ c = l := by omega
      rw [if_neg hcl]
      have hne : (xs.drop l).take (m - l) ≠ [] := by intro e; rw [e] at hlen; simp at hlen; omega
      have hxe : xs.isEmpty = false := by cases xs with | nil => simp at hm; omega | cons _ _ => rfl
      have hxne : xs ≠ [] := by rintro rfl; simp at hxe
      refine ⟨ad.block :: flatN (fun i => Fs (l + i)) (m - l), fun b hb => ?_, ⟨by rw [hlen]; omega, by have := h.cap; omega, by simp, fun ad' had' _ => ?_, fun ad' had' => ?_⟩⟩
      · rw [hF, hxe]
        rcases List.mem_cons.1 hb with rfl | hb
        · simp
        · obtain ⟨i, hi, hbi⟩ := mem_flatN.1 hb
          exact List.mem_append_right _ (mem_flatN.2 ⟨l + i, by omega, hbi⟩)
      · simp at had'
        subst had'; rw [add_block]; exact h.lt ad hA hxne
      · simp at had'
        subst had'; refine ⟨fun i => css (l + i), fun i => Fs (l + i), ?_, fun i x hx => ?_⟩
        · have : ((xs.drop l).take (m - l)).isEmpty = false := by cases hq : (xs.drop l).take (m - l) with | nil => exact absurd hq hne | cons _ _ => rfl
          rw [this, hlen, add_block]; rfl
        · rw [List.getElem?_take] at hx
          split at hx
          · rw [List.getElem?_drop] at hx
            obtain ⟨h1, h2, h3⟩ := hall (l + i) x hx; refine ⟨?_, h2, h3⟩; rw [add_add, ← Nat.add_mul]; exact h1
          · cases hx

theorem elemSize_slice {sz : Nat} {t : TypeId} (he : elemSize Γ t = some sz) : ∃ e, Γ.und t = some (.slice e) ∧ Γ.size e = some sz := by
  unfold elemSize at he; split at he
  · rename_i e hu; exact ⟨e, hu, he⟩
  · cases he
theorem sound_sliceDat (h : RelX K S a w L Bs) (T : TabOK Γ P) {t : TypeId} {x : Operand} {lo hi : Option Operand} (ho : o.op = .slice t x lo hi none) (hns : Γ.und t ≠ some .string) {τ : Ty} {xs : List τ.den} (he : elemSize Γ t = some τ.sz) (hx : S.cell x = .dat (.slice τ) xs)
    {g : Bool} {l m : Nat} (hb : bounds S lo hi xs.length = some (g, l, m)) (hk : chk g (k (S.put o.dst (.val (.one (.dat (.slice τ) ((xs.drop l).take (m - l))))))) = some r) : Sound K P o a w k r := by
  obtain ⟨hg, hk⟩ := chk_some hk; obtain ⟨h1, F, ⟨A, c, hv, hrow⟩, hF⟩ := h.cell hx (by simp); have hv : a.eval x = .slice A xs.length c := (List.cons.inj hv).1
  rcases run_sliceRow (P := P) T h ho he hv hrow.le hb hg with ⟨hlm, hm, hr⟩ | hs
  · obtain ⟨F', hF', hrow'⟩ := rowAt_sub hrow hlm hm
    refine sound_pure h (s := .val (.one (.dat (.slice τ) ((xs.drop l).take (m - l))))) ⟨rfl, F', ⟨_, _, ?_, hrow'⟩, fun b hb => hF b (hF' b hb)⟩ hr hk
    have : List.length (α := τ.den) ((xs.drop l).take (m - l)) = m - l := by simp; omega
    rw [this]
  · exact absurd hs hns

theorem sound_sliceOwn (h : RelX K S a w L Bs) (T : TabOK Γ P) {t : TypeId} {x : Operand} {lo hi : Option Operand} (ho : o.op = .slice t x lo hi none) (hns : Γ.und t ≠ some .string) {τ : Ty} {xs : List τ.den} {d : Bool} {q : Nat} (he : elemSize Γ t = some τ.sz) (hx : S.cell x = .own q)
    (hq : S.obj q = .row τ xs d) {g : Bool} {l m : Nat} (hb : bounds S lo hi xs.length = some (g, l, m)) (hk : chk g (k (S.put o.dst (.val (.one (.win q l (m - l)))))) = some r) : Sound K P o a w k r := by
  obtain ⟨hg, hk⟩ := chk_some hk; obtain ⟨h1, h2, h3⟩ := h.cell hx (by simp); have hob := lget_obj hq (by simp); have hv := h3 τ xs d (.inl hob); obtain ⟨css, Fs, hown, _, _⟩ := h.objs.obj q _ hob
  rcases hown.2 with ⟨hL, hn⟩ | ⟨gb, cap, cur, e, fz, hL, _, _, hle, hcm, _⟩
  · rw [hL] at hv
    have hv' : a.eval x = .slice none xs.length 0 := by rw [hv, hn]
    rcases run_sliceRow (P := P) T h ho he hv' (by omega) hb hg with ⟨hlm, hm, hr⟩ | hs
    · refine sound_pure h (s := .val (.one (.win q l (m - l)))) ⟨rfl, h2, fun t' xs' d' hq' => ?_⟩ hr hk
      replace hq' := hq'.of_row hob
      rw [hob] at hq'; cases hq'; exact ⟨by omega, _, _, rfl, by omega, by simp [maxLen], fun _ => by omega, fun hp => by omega⟩
    · exact absurd hs hns
  · rw [hL] at hv
    rcases run_sliceRow (P := P) T h ho he hv hle hb hg with ⟨hlm, hm, hr⟩ | hs
    · refine sound_pure h (s := .val (.one (.win q l (m - l)))) ⟨rfl, h2, fun t' xs' d' hq' => ?_⟩ hr hk
      replace hq' := hq'.of_row hob
      rw [hob] at hq'; cases hq'; refine ⟨by omega, _, _, rfl, by omega, by omega, fun hn => ?_, fun hp => ⟨gb, cap, hL, ?_, by omega⟩⟩
      · split at hn
        · cases hn
        · simp at hn
      · rw [if_neg (by omega)]
        rfl
    · exact absurd hs hns

theorem sound_sliceWin (h : RelX K S a w L Bs) (T : TabOK Γ P) {t : TypeId} {x : Operand} {lo hi : Option Operand} (ho : o.op = .slice t x lo hi none) (hns : Γ.und t ≠ some .string) {τ : Ty} {xs : List τ.den} {d : Bool} {q l0 n0 : Nat} (he : elemSize Γ t = some τ.sz) (hx : S.cell x = .win q l0 n0)
    (hq : S.obj q = .row τ xs d) {g : Bool} {l m : Nat} (hb : bounds S lo hi n0 = some (g, l, m)) (hk : chk g (k (S.put o.dst (.val (.one (.win q (l0 + l) (m - l)))))) = some r) : Sound K P o a w k r := by
  obtain ⟨hg, hk⟩ := chk_some hk; obtain ⟨h1, h2, h3⟩ := h.cell hx (by simp); have hob := lget_obj hq (by simp); obtain ⟨hle, A, c, hv, hnc, hcm, hnil, hpos⟩ := h3 τ xs d (.inl hob)
  rcases run_sliceRow (P := P) T h ho he hv hnc hb hg with ⟨hlm, hm, hr⟩ | hs
  · refine sound_pure h (s := .val (.one (.win q (l0 + l) (m - l)))) ⟨rfl, h2, fun t' xs' d' hq' => ?_⟩ hr hk
    replace hq' := hq'.of_row hob
    rw [hob] at hq'; cases hq'; refine ⟨by omega, _, _, rfl, by omega, by omega, fun hn => ?_, fun hp => ?_⟩
    · split at hn
      · have := hnil hn; omega
      · cases A with
        | none => have := hnil rfl; omega
        | some ad => simp at hn
    · obtain ⟨gb, cap, hL, hA, hcc⟩ := hpos (by omega)
      refine ⟨gb, cap, hL, ?_, by omega⟩; rw [if_neg (by omega), hA]; simp only [Option.map_some]; rw [add_add, ← Nat.add_mul]
  · exact absurd hs hns

end
end Go.Proofs.GR

