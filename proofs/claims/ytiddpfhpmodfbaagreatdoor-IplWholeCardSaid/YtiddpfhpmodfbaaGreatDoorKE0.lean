/- A part of the proof: texts of the author, joined. -/
import GoSem.Step
import Derived.Control
section
set_option linter.unusedVariables false
set_option linter.unusedSimpArgs false
set_option linter.unnecessarySimpa false
namespace Go.Ev
open Go

/-! ## Types of plain data -/
inductive Ty where
  | int (k : IntKind)
  | bool
  | str
  | sl (e : Ty)
  | pr (a b : Ty)
  deriving Inhabited
@[reducible] def Ty.T : Ty → Type
  | .int _ => Int
  | .bool => Bool
  | .str => ByteArray
  | .sl e => List e.T
  | .pr a b => a.T × b.T
def Ty.size : Ty → Nat
  | .pr a b => a.size + b.size
  | _ => 1
/-- No slices inside. -/
def Ty.flat : Ty → Bool
  | .sl _ => false
  | .pr a b => match a.flat with | true => b.flat | false => false
  | _ => true
def Ty.dflt : (t : Ty) → t.T
  | .int _ => (0 : Int)
  | .bool => false
  | .str => ByteArray.empty
  | .sl _ => []
  | .pr a b => (a.dflt, b.dflt)
def kindN : IntKind → Nat
  | .i8 => 0 | .i16 => 1 | .i32 => 2 | .i64 => 3 | .u8 => 4 | .u16 => 5 | .u32 => 6 | .u64 => 7
def Ty.eqb : Ty → Ty → Bool
  | .int k, .int k' => Nat.beq (kindN k) (kindN k')
  | .bool, .bool => true
  | .str, .str => true
  | .sl e, .sl e' => e.eqb e'
  | .pr a b, .pr a' b' => match a.eqb a' with | true => b.eqb b' | false => false
  | _, _ => false
theorem kindN_inj {k k' : IntKind} (h : Nat.beq (kindN k) (kindN k') = true) : k = k' := by
  cases k <;> cases k' <;> first | rfl | cases h
theorem Ty.eqb_eq : ∀ {a b : Ty}, a.eqb b = true → a = b
  | .int k, b, h => by cases b <;> first | (cases h; done) | skip; exact congrArg Ty.int (kindN_inj h)
  | .bool, b, h => by cases b <;> first | rfl | cases h
  | .str, b, h => by cases b <;> first | rfl | cases h
  | .sl e, b, h => by cases b <;> first | (cases h; done) | skip; exact congrArg Ty.sl (Ty.eqb_eq h)
  | .pr x y, b, h => by
    cases b <;> first | (cases h; done) | skip
    rename_i u v
    unfold Ty.eqb at h
    cases hx : x.eqb u with
    | false => rw [hx] at h; cases h
    | true => rw [hx] at h; rw [Ty.eqb_eq hx, Ty.eqb_eq h]
/-- The same value at a type that is the same. -/
def Ty.cast (a b : Ty) (x : a.T) : Option b.T := match h : a.eqb b with
  | true => some (Ty.eqb_eq h ▸ x)
  | false => none
theorem Ty.eqb_refl : ∀ a : Ty, a.eqb a = true
  | .int k => by cases k <;> rfl
  | .bool => rfl
  | .str => rfl
  | .sl e => Ty.eqb_refl e
  | .pr a b => by unfold Ty.eqb; rw [Ty.eqb_refl a]; exact Ty.eqb_refl b
theorem Ty.cast_eq {a b : Ty} {x : a.T} {y : b.T} (h : a.cast b x = some y) : ∃ e : a = b, e ▸ x = y := by
  unfold Ty.cast at h
  split at h
  · rename_i e
    cases h
    exact ⟨Ty.eqb_eq e, rfl⟩
  · cases h
end Go.Ev
end

section
set_option linter.unusedVariables false
set_option linter.unusedSimpArgs false
set_option linter.unnecessarySimpa false
namespace Go.Ev
open Go

/-! ## Values and memory as0 the evaluator sees them -/
/-- A value: a word; a slice that nobody writes to any more (its elements, each a list of cells); a slice over a block of one's own; the address of a cell of such a block; the address of a cell of a slice that nobody writes to; a struct; several results; a function value; an empty slice that is not nil. Then (symbolic evaluation alone): plain data in a slice; the address of a cell of it; all of a block; a part of it; the address of a cell of it; a value that is there only under a condition; what is not looked at; a truth value that is known. -/
inductive V where
  | lit (v : Value)
  | con (fl : Bool) (sz : Nat) (es : List (List V))
  | ref (b sz off len : Nat)
  | ptr (b sz i c : Nat)
  | cel (fl : Bool) (sz : Nat) (es : List (List V)) (i c : Nat)
  | agg (cs : List V)
  | tup (vs : List V)
  | fn (f : Nat) (caps : List V)
  | emp
  | arr (t : Ty) (l : List t.T)
  | cur (t : Ty) (l : List t.T) (n : Int) (c : Nat)
  | own (b : Nat)
  | sub (b : Nat) (lo hi : Int)
  | pto (b : Nat) (n : Int) (c : Nat)
  | gd (j : Nat) (w : Bool) (g : Bool) (v : V)
  | jnk
  | kb (b : Bool)
  deriving Inhabited

/-- A block of one's own: a variable (box), or a slice's elements, which then hold no address of one's own; fl: they hold no slice at all. -/
structure Blk where
  box : Bool
  fl : Bool
  sz : Nat
  es : List (List V)

def set {α : Type} (f : Nat → Option α) (t : Nat) (x : Option α) : Nat → Option α := fun u => if u = t then x else f u

structure St where
  tm : Nat → Option V
  h : Nat → Option Blk
  nx : Nat
  nt : Nat
  ni : Nat

def bnd {α β : Type} (x : Option α) (f : α → Option β) : Option β :=
  match x with
  | some a => f a
  | none => none
def cnd {α : Type} (b : Bool) (x y : Option α) : Option α := if b then x else y
/-- A condition that is to be shown, not to be parted. -/
def grd {α : Type} (p : Prop) [Decidable p] (x : Option α) : Option α := if p then x else none

def one : Value → Bool
  | .agg _ | .tuple _ => false
  | _ => true
def ofVals : List Value → Option (List V)
  | [] => some []
  | x :: r => cnd (one x) (bnd (ofVals r) fun l => some (.lit x :: l)) none
def ofVal : Value → Option V
  | .agg cs => bnd (ofVals cs.toList) fun l => some (.agg l)
  | .tuple _ => none
  | v => some (.lit v)

def opd (tm : Nat → Option V) : Operand → Option V
  | .tmp t => tm t
  | .const v => ofVal v
  | .func f => some (.fn f [])
  | .global _ => none
def opds (tm : Nat → Option V) : List Operand → Option (List V)
  | [] => some []
  | x :: r => bnd (opd tm x) fun v => bnd (opds tm r) fun vs => some (v :: vs)

/-! ## Types -/
def tsz (P : Program) (t : Nat) : Nat := ((P.info? t).map (·.size)).getD 0
def tagg (P : Program) (t : Nat) : Option Bool := match P.underlying t with | some (.struct _) | some (.array _ _) => some true | some _ => some false | none => none
def tfld (P : Program) (t i : Nat) : Option (Nat × Nat) := match P.underlying t with | some (.struct fs) => (fs[i]?).map fun f => (f.offset, f.type) | _ => none
def tzero (P : Program) (t : Nat) : Option V := bnd ((P.info? t).bind (·.zero)) ofVal
def tplaces (P : Program) (t : Nat) : Option (List (Nat × Nat)) := match P.underlying t with | some (.struct fs) => fs.toList.mapM (fun f => (P.info? f.type).map fun i => (f.offset, i.size)) | _ => none
def telem (P : Program) (t : Nat) : Option Nat := match P.underlying t with | some (.slice e) => some e | _ => none
def tstr (P : Program) (t : Nat) : Bool := match P.underlying t with | some .string => true | _ => false
def tbool (P : Program) (t : Nat) : Bool := match P.underlying t with | some .bool => true | _ => false
def tnint (P : Program) (t : Nat) : Bool := match P.underlying t with | some (.int _) => false | some _ => true | none => false
def tint (P : Program) (t : Nat) : Option IntKind := match P.underlying t with | some (.int k) => some k | _ => none
def tbytes (P : Program) (t : Nat) : Nat := ((P.info? t).map (·.bytes)).getD 0

/-! ## Small parts -/
def V.cells : V → List V
  | .agg cs => cs
  | v => [v]
def mkV (a : Bool) (cs : List V) : Option V :=
  if a then some (.agg cs) else match cs with | [v] => some v | _ => none

/-- No address of one's own inside. -/
def V.clo : V → Bool
  | .lit _ => true
  | .con .. => true
  | .emp => true
  | _ => false
def clos : List V → Bool
  | [] => true
  | v :: r => v.clo && clos r
/-- Neither that, nor a slice. -/
def V.flt : V → Bool
  | .lit _ => true
  | _ => false
def flts : List V → Bool
  | [] => true
  | v :: r => v.flt && flts r

/-- One cell each. -/
def V.one : V → Bool
  | .agg _ | .tup _ => false
  | _ => true
def ones : List V → Bool
  | [] => true
  | v :: r => v.one && ones r

def at2 {α : Type} (es : List (List α)) (i j : Nat) : Option α := (es[i]?).bind (·[j]?)

def intBin (op : BinOp) (k : IntKind) (a b : Int) : Option Value :=
  match op with
  | .add => some (.int k (k.wrap (a + b)))
  | .sub => some (.int k (k.wrap (a - b)))
  | .mul => some (.int k (k.wrap (a * b)))
  | .quo => grd (b ≠ 0) (some (.int k (k.wrap (a.tdiv b))))
  | .rem => grd (b ≠ 0) (some (.int k (a.tmod b)))
  | .and => some (.int k (k.wrap ((BitVec.ofInt k.bits a &&& BitVec.ofInt k.bits b).toNat)))
  | .or => some (.int k (k.wrap ((BitVec.ofInt k.bits a ||| BitVec.ofInt k.bits b).toNat)))
  | .xor => some (.int k (k.wrap ((BitVec.ofInt k.bits a ^^^ BitVec.ofInt k.bits b).toNat)))
  | .eql => some (.bool (a == b))
  | .neq => some (.bool (a != b))
  | .lss => some (.bool (a < b))
  | .leq => some (.bool (a ≤ b))
  | .gtr => some (.bool (a > b))
  | .geq => some (.bool (a ≥ b))
  | _ => none
def shBin (op : BinOp) (k : IntKind) (a b : Int) : Option Value :=
  match op with
  | .shl => grd (0 ≤ b) (some (.int k (k.wrap (a * 2 ^ (min b.toNat k.bits)))))
  | .shr => grd (0 ≤ b) (some (.int k (a.fdiv (2 ^ (min b.toNat k.bits)))))
  | _ => none
def strBin (op : BinOp) (a b : ByteArray) : Option Value :=
  match op with
  | .add => grd (a.size + b.size ≤ 9223372036854775807) (some (.string (a ++ b)))
  | .eql => some (.bool (a.toList == b.toList))
  | .neq => some (.bool !(a.toList == b.toList))
  | .lss => some (.bool (Op.bytesLess a.toList b.toList))
  | .leq => some (.bool (Op.bytesLess a.toList b.toList || a.toList == b.toList))
  | .gtr => some (.bool !(Op.bytesLess a.toList b.toList || a.toList == b.toList))
  | .geq => some (.bool !(Op.bytesLess a.toList b.toList))
  | _ => none
/-- Two words of one type (0: a whole number, 1: a bool, 2: a string). -/
def litEq (k : Nat) (x y : Value) : Option Bool :=
  match k, x, y with
  | 0, .int k a, .int k' b => if k = k' then some (a == b) else none
  | 1, .bool a, .bool b => some (a == b)
  | 2, .string a, .string b => some (a.toList == b.toList)
  | _, _, _ => none
def cellsEq : List Nat → List V → List V → Option Bool
  | [], [], [] => some true
  | k :: ks, .lit a :: x, .lit b :: y => bnd (litEq k a b) fun r => bnd (cellsEq ks x y) fun q => some (r && q)
  | _, _, _ => none
def isShift : BinOp → Bool
  | .shl | .shr => true
  | _ => false

def nilCmp (op : BinOp) (b : Bool) : Option V := match op with
  | .eql => some (.lit (.bool b))
  | .neq => some (.lit (.bool !b))
  | _ => none
def binV (P : Program) (te : Option (List Nat)) (t : Nat) (op : BinOp) (x y : V) : Option V :=
  match x, y with
  | .lit (.int k a), .lit (.int k' b) => if isShift op then bnd (shBin op k a b) fun v => some (.lit v) else if k = k' then bnd (intBin op k a b) fun v => some (.lit v) else none
  | .lit (.string a), .lit (.string b) => bnd (strBin op a b) fun v => some (.lit v)
  | .lit (.bool a), .lit (.bool b) => cnd (tbool P t) (match op with | .eql => some (.lit (.bool (a == b))) | .neq => some (.lit (.bool !(a == b))) | _ => none) none
  | .agg xs, .agg ys => bnd te fun ks => bnd (cellsEq ks xs ys) fun b => grd (tagg P t = some true) (match op with
    | .eql => some (.lit (.bool b))
    | .neq => some (.lit (.bool !b))
    | _ => none)
  | .con _ _ (_ :: _), .lit (.slice none 0 0) => bnd (telem P t) fun _ => nilCmp op false
  | .ref _ _ _ (_ + 1), .lit (.slice none 0 0) => bnd (telem P t) fun _ => nilCmp op false
  | .lit (.slice none 0 0), .lit (.slice none 0 0) => bnd (telem P t) fun _ => nilCmp op true
  | .emp, .lit (.slice none 0 0) => bnd (telem P t) fun _ => nilCmp op false
  | _, _ => none

def spl (cs : List V) (c : Nat) (vs : List V) : List V := cs.take c ++ vs ++ cs.drop (c + vs.length)

def loadV (P : Program) (h : Nat → Option Blk) (t : Nat) (a : V) : Option V :=
  match a with
  | .ptr b sz i c => bnd (h b) fun blk => bnd (blk.es[i]?) fun cs => bnd (tagg P t) fun ag => grd (sz = blk.sz ∧ c + tsz P t ≤ cs.length) (mkV ag ((cs.drop c).take (tsz P t)))
  | .cel _ _ es i c => bnd (es[i]?) fun cs => bnd (tagg P t) fun ag => grd (c + tsz P t ≤ cs.length) (mkV ag ((cs.drop c).take (tsz P t)))
  | _ => none

/-! ## What an operation does: the value, new blocks (numbers from k on), changes of blocks -/
structure Dl where
  v : Option V
  nb : List Blk
  up : List (Nat × Option Blk)

def pureD (v : V) : Option Dl := some ⟨some v, [], []⟩

def storeV (P : Program) (h : Nat → Option Blk) (t : Nat) (a v : V) : Option Dl :=
  match a with
  | .ptr b sz i c => bnd (h b) fun blk => bnd (blk.es[i]?) fun cs => bnd (tagg P t) fun _ =>
      grd (sz = blk.sz ∧ v.cells.length = tsz P t ∧ c + tsz P t ≤ cs.length)
        (cnd (ones v.cells && (blk.box || (clos v.cells && (!blk.fl || flts v.cells)))) (some ⟨none, [], [(b, some { blk with es := blk.es.set i (spl cs c v.cells) })]⟩) none)
  | _ => none

def lenV (P : Program) (t : Nat) : V → Option Int
  | .lit (.string s) => cnd (tstr P t) (some s.size) none
  | .lit (.slice none n _) => bnd (telem P t) fun _ => some n
  | .con _ _ es => bnd (telem P t) fun _ => some es.length
  | .ref _ _ _ n => bnd (telem P t) fun _ => some n
  | _ => none

def idxV (P : Program) (t : Nat) (x : V) (k : Int) : Option V :=
  bnd (telem P t) fun e =>
  match x with
  | .con fl sz es => grd (sz = tsz P e ∧ 0 < sz ∧ 0 ≤ k ∧ k < es.length) (some (.cel fl sz es k.toNat 0))
  | .ref b sz off n => grd (sz = tsz P e ∧ 0 < sz ∧ 0 ≤ k ∧ k < n) (some (.ptr b sz (off + k.toNat) 0))
  | _ => none

/-- The bounds of a cut: 0 ≤ lo ≤ hi ≤ n. -/
def bndOf : Option V → Int → Option Int
  | none, d => some d
  | some (.lit (.int _ k)), _ => some k
  | _, _ => none
def bnds (n : Nat) (lo hi : Option V) : Option (Nat × Nat) :=
  bnd (bndOf hi n) fun h => bnd (bndOf lo 0) fun l => grd (0 ≤ l ∧ l ≤ h ∧ h ≤ n) (some (l.toNat, h.toNat))
def sliceV (P : Program) (t : Nat) (x : V) (lo hi : Option V) : Option V :=
  match x with
  | .lit (.string s) => cnd (tstr P t) (bnd (bnds s.size lo hi) fun q => some (.lit (.string (s.extract q.1 q.2)))) none
  | .con fl sz es => bnd (telem P t) fun e => grd (sz = tsz P e ∧ 0 < sz) (bnd (bnds es.length lo hi) fun q => some (.con fl sz ((es.take q.2).drop q.1)))
  | .ref b sz off n => bnd (telem P t) fun e => grd (sz = tsz P e ∧ 0 < sz) (bnd (bnds n lo hi) fun q => some (.ref b sz (off + q.1) (q.2 - q.1)))
  | .lit (.slice none 0 c) => bnd (telem P t) fun e => grd (0 < tsz P e) (bnd (bnds 0 lo hi) fun _ => some (.lit (.slice none 0 c)))
  | _ => none

/-- A cut up to the block's end. -/
def sliceW (P : Program) (h : Nat → Option Blk) (t : Nat) (x : V) (lo hi : Option V) : Option V :=
  match x, lo, hi with
  | .ref b sz off _, some l, some u => bnd (telem P t) fun e => bnd (h b) fun blk => grd (blk.box = false ∧ sz = tsz P e ∧ blk.sz = sz ∧ 0 < sz ∧ off ≤ blk.es.length)
      (bnd (bnds (blk.es.length - off) (some l) (some u)) fun q => some (.ref b sz (off + q.1) (q.2 - q.1)))
  | _, _, _ => none
def orE {α : Type} (x y : Option α) : Option α := match x with
  | some a => some a
  | none => y
def slen3 : V → Option Nat
  | .ref _ _ _ n => some n
  | .con _ _ es => some es.length
  | .lit (.slice none 0 0) => some 0
  | _ => none
/-- A cut with a bound for what comes behind: only whether it may be. -/
def sliceM (P : Program) (t : Nat) (x : V) (lo : Option V) (hi mx : V) : Option (Option V) :=
  bnd (telem P t) fun e => grd (0 < tsz P e) (bnd (slen3 x) fun n => match mx with
    | .lit (.int _ m) => grd (0 ≤ m ∧ m ≤ n) (bnd (bnds m.toNat lo (some hi)) fun _ => some none)
    | _ => none)

def byteCells (s : ByteArray) : List (List V) := s.data.toList.map fun b => [.lit (.int .u8 (b.toNat : Int))]
/-- The elements of a slice (of what is appended, copied, turned into a string). -/
def elems (h : Nat → Option Blk) (sz : Nat) : V → Option (Bool × List (List V))
  | .lit (.string s) => grd (sz = 1) (some (true, byteCells s))
  | .lit (.slice none 0 _) => some (true, [])
  | .emp => some (true, [])
  | .con fl sz' es => grd (sz' = sz) (some (fl, es))
  | .ref b sz' off n => bnd (h b) fun blk => grd (blk.box = false ∧ sz' = sz ∧ blk.sz = sz ∧ off + n ≤ blk.es.length) (some (blk.fl, (blk.es.drop off).take n))
  | _ => none

def capLim (P : Program) (e n : Nat) : Prop := n * (tbytes P e + 1) ≤ 140737488355328
instance (P : Program) (e n : Nat) : Decidable (capLim P e n) := by unfold capLim; infer_instance

def appendV (P : Program) (h : Nat → Option Blk) (k t : Nat) (x y : V) : Option Dl :=
  bnd (telem P t) fun e => bnd (tzero P e) fun z => grd (z.cells.length = tsz P e) (bnd (elems h (tsz P e) y) fun q =>
    match x with
    | .lit (.slice none 0 0) => grd (capLim P e q.2.length) (some ⟨some (.ref k (tsz P e) 0 q.2.length), [⟨false, q.1, tsz P e, q.2⟩], []⟩)
    | .ref b sz off n => bnd (h b) fun blk =>
        grd (blk.box = false ∧ sz = tsz P e ∧ blk.sz = sz ∧ off = 0 ∧ n = blk.es.length ∧ capLim P e (n + q.2.length))
          (some ⟨some (.ref k sz 0 (n + q.2.length)), [⟨false, blk.fl && q.1, sz, blk.es ++ q.2⟩], [(b, none)]⟩)
    | _ => none)

def selfRef (x y : V) : Bool := match x, y with
  | .ref b _ _ _, .ref b' _ _ _ => Nat.beq b b'
  | _, _ => false
/-- 'append' of a part of a block to another part of it, where there is room. -/
def appendW (P : Program) (h : Nat → Option Blk) (t : Nat) (x y : V) : Option Dl :=
  bnd (telem P t) fun e => grd (0 < tsz P e) (bnd (elems h (tsz P e) y) fun q =>
    match x with
    | .ref b sz off n => bnd (h b) fun blk =>
        grd (blk.box = false ∧ sz = tsz P e ∧ blk.sz = sz ∧ off + n + q.2.length ≤ blk.es.length ∧ (!blk.fl || q.1) = true)
          (some ⟨some (.ref b sz off (n + q.2.length)), [], [(b, some { blk with es := blk.es.take (off + n) ++ (q.2 ++ blk.es.drop (off + n + q.2.length)) })]⟩)
    | _ => none)
def clearV (P : Program) (h : Nat → Option Blk) (t : Nat) (x : V) : Option Dl :=
  bnd (telem P t) fun e => bnd (tzero P e) fun z => grd (z.cells.length = tsz P e ∧ ones z.cells = true ∧ flts z.cells = true ∧ 0 < tsz P e) (match x with
    | .ref b sz off n => bnd (h b) fun blk =>
        grd (blk.box = false ∧ sz = tsz P e ∧ blk.sz = sz ∧ off + n ≤ blk.es.length)
          (some ⟨none, [], [(b, some { blk with es := blk.es.take off ++ (List.replicate n z.cells ++ blk.es.drop (off + n)) })]⟩)
    | _ => none)
/-- 'copy': all is read ahead of the writing. -/
def copyV (P : Program) (h : Nat → Option Blk) (t : Nat) (x y : V) : Option Dl :=
  bnd (telem P t) fun e => grd (0 < tsz P e) (bnd (elems h (tsz P e) y) fun q =>
    match x with
    | .ref b sz off n => bnd (h b) fun blk =>
        grd (blk.box = false ∧ sz = tsz P e ∧ blk.sz = sz ∧ off + n ≤ blk.es.length ∧ (!blk.fl || q.1) = true)
          (some ⟨some (.lit (.int .i64 ((min q.2.length n : Nat) : Int))), [], [(b, some { blk with es := blk.es.take off ++ (q.2.take n ++ blk.es.drop (off + min q.2.length n)) })]⟩)
    | _ => none)

/-- A slice as0 one that nobody writes to. -/
def toCon (h : Nat → Option Blk) : V → Option V
  | .lit v => some (.lit v)
  | .con fl sz es => some (.con fl sz es)
  | .ref b sz off n => bnd (h b) fun blk => grd (blk.box = false ∧ blk.sz = sz ∧ off + n ≤ blk.es.length) (some (.con blk.fl sz ((blk.es.drop off).take n)))
  | _ => none
def toConl (h : Nat → Option Blk) : List V → Option (List V)
  | [] => some []
  | v :: r => bnd (toCon h v) fun c => bnd (toConl h r) fun vs => some (c :: vs)
def toCons (h : Nat → Option Blk) : List V → Option (List V)
  | [] => some []
  | .agg cs :: r => bnd (toConl h cs) fun c => bnd (toCons h r) fun vs => some (.agg c :: vs)
  | v :: r => bnd (toCon h v) fun c => bnd (toCons h r) fun vs => some (c :: vs)

def eqFs (P : Program) (g : Nat → Option (List Nat)) : List Field → Nat → Option (List Nat)
  | [], _ => some []
  | f :: r, o => grd (f.name ≠ "_" ∧ f.offset = o ∧ (tagg P f.type).isSome = true) (bnd (g f.type) fun k1 => bnd (eqFs P g r (o + k1.length)) fun k2 => grd (0 < k1.length) (some (k1 ++ k2)))
/-- What '==' of this type compares, cell by cell. -/
def eqT (P : Program) : Nat → Nat → Option (List Nat)
  | 0, _ => none
  | d + 1, t => match P.underlying t with
    | some (.int _) => grd (tsz P t = 1) (some [0])
    | some .bool => grd (tsz P t = 1) (some [1])
    | some .string => grd (tsz P t = 1) (some [2])
    | some (.struct fs) => grd (P.stoodInHeld t = false) (bnd (eqFs P (eqT P d) fs.toList 0) fun ks => grd (ks.length = tsz P t) (some ks))
    | _ => none
def eqK (P : Program) (t : Nat) : Option (List Nat) := grd (P.eqGuardType P.depth t = false) (eqT P 20 t)
end Go.Ev
end

section
set_option linter.unusedVariables false
set_option linter.unusedSimpArgs false
set_option linter.unnecessarySimpa false
namespace Go.Ev
open Go

/-! ## Calls: what is handed on -/
def V.ids : V → List Nat
  | .ref b _ _ _ => [b]
  | .ptr b _ _ _ => [b]
  | .agg cs => L cs
  | .tup vs => L vs
  | .fn _ cs => L cs
  | .lit _ => []
  | .con .. => []
  | .cel .. => []
  | .own b => [b]
  | .sub b _ _ => [b]
  | .pto b _ _ => [b]
  | .emp => []
  | .arr .. => []
  | .cur .. => []
  | .gd .. => []
  | .jnk => []
  | .kb _ => []
  where L : List V → List Nat
    | [] => []
    | v :: r => v.ids ++ L r
/-- Other numbers for the blocks. -/
def V.ren (f : Nat → Option Nat) : V → Option V
  | .ref b sz off n => bnd (f b) fun c => some (.ref c sz off n)
  | .ptr b sz i c => bnd (f b) fun q => some (.ptr q sz i c)
  | .agg cs => bnd (L f cs) fun l => some (.agg l)
  | .tup vs => bnd (L f vs) fun l => some (.tup l)
  | .fn g cs => bnd (L f cs) fun l => some (.fn g l)
  | .lit v => some (.lit v)
  | .con fl sz es => some (.con fl sz es)
  | .cel .. => none
  | .own b => bnd (f b) fun c => some (.own c)
  | .sub b lo hi => bnd (f b) fun c => some (.sub c lo hi)
  | .pto b n c => bnd (f b) fun q => some (.pto q n c)
  | .emp => some .emp
  | .arr t l => some (.arr t l)
  | .cur .. => none
  | .gd .. => none
  | .jnk => none
  | .kb b => some (.kb b)
  where L (f : Nat → Option Nat) : List V → Option (List V)
    | [] => some []
    | v :: r => bnd (v.ren f) fun w => bnd (L f r) fun l => some (w :: l)
/-- No slice that others may hold. -/
def V.noc : V → Bool
  | .lit _ => true
  | .con .. => false
  | .cel .. => false
  | .ref .. => true
  | .ptr .. => true
  | .agg cs => L cs
  | .tup vs => L vs
  | .fn _ cs => L cs
  | .emp => false
  | .arr .. => false
  | .cur .. => false
  | .own _ => true
  | .sub .. => true
  | .pto .. => true
  | .gd .. => false
  | .jnk => false
  | .kb _ => true
  where L : List V → Bool
    | [] => true
    | v :: r => v.noc && L r
def Blk.ren (f : Nat → Option Nat) (b : Blk) : Option Blk :=
  if b.box then match b.es with
    | [cs] => bnd (V.ren.L f cs) fun l => some { b with es := [l] }
    | _ => none
  else some b
def Blk.noc (b : Blk) : Bool := if b.box then (match b.es with | [cs] => V.noc.L cs | _ => false) else b.fl
def idsB (h : Nat → Option Blk) (b : Nat) : List Nat :=
  match h b with
  | some ⟨true, _, _, [cs]⟩ => V.ids.L cs
  | _ => []
def mem (b : Nat) : List Nat → Bool
  | [] => false
  | x :: r => if x = b then true else mem b r
def snoc (l : List Nat) (b : Nat) : List Nat := l ++ [b]
/-- All blocks that can be reached, in the order in which they are found. -/
def reach (h : Nat → Option Blk) : Nat → List Nat → List Nat → List Nat
  | 0, _, seen => seen
  | _ + 1, [], seen => seen
  | n + 1, b :: r, seen => cond (mem b seen) (reach h n r seen) (reach h n (idsB h b ++ r) (snoc seen b))
def idx (b : Nat) : List Nat → Nat → Option Nat
  | [], _ => none
  | x :: r, i => if x = b then some i else idx b r (i + 1)
def nodup : List Nat → Bool
  | [] => true
  | x :: r => !mem x r && nodup r
def renBs (h : Nat → Option Blk) (f : Nat → Option Nat) : List Nat → Option (List (Option Blk))
  | [] => some []
  | b :: r => bnd (match h b with | some blk => bnd (blk.ren f) fun c => some (some c) | none => some none) fun x => bnd (renBs h f r) fun l => some (x :: l)
def ofL (l : List (Option Blk)) : Nat → Option Blk := fun i => (l[i]?).bind id
def nth (l : List Nat) : Nat → Option Nat
  | i => l[i]?

def rngL : Nat → Nat → List Nat
  | _, 0 => []
  | i, n + 1 => i :: rngL (i + 1) n

/-- The numbers of what a call hands back: those that came in (l), new ones from k on. -/
def back (l : List Nat) (k : Nat) (i : Nat) : Option Nat := match l[i]? with | some b => some b | none => some (k + (i - l.length))

/-- (result, what became of the blocks that were handed in, new blocks) -/
abbrev Ret := V × List (Option Blk) × List Blk
abbrev CallF := Nat → List V → List Blk → Option Ret
/-- The program; the functions that take one's blocks for good; what is carried on at the loop in block i of a function; the struct types whose '==' is that of their cells; functions that are given. -/
structure Env where
  P : Program
  mv : Nat → Bool
  An : Nat → Nat → List (Nat × Nat)
  te : Nat → Option (List Nat)
  fs : Nat → Bool
  un : Nat → Nat → List (Nat × List Nat)
  Jn : Nat → Nat → Option (List Nat × Nat)
  G : Nat → Option (List V → List Blk → Option Ret)
  On : Nat → List (List (Option Nat))
  nl : Nat → Bool

def somes : List (Option Blk) → Option (List Blk)
  | [] => some []
  | some b :: r => bnd (somes r) fun l => some (b :: l)
  | none :: _ => none
def renNews (f : Nat → Option Nat) : List Blk → Option (List Blk)
  | [] => some []
  | b :: r => bnd (b.ren f) fun c => bnd (renNews f r) fun l => some (c :: l)
def zipUp (f : Nat → Option Nat) : List Nat → List (Option Blk) → Option (List (Nat × Option Blk))
  | [], [] => some []
  | b :: l, none :: r => bnd (zipUp f l r) fun u => some ((b, none) :: u)
  | b :: l, some x :: r => bnd (x.ren f) fun c => bnd (zipUp f l r) fun u => some ((b, some c) :: u)
  | _, _ => none
def dels : List Nat → List (Nat × Option Blk)
  | [] => []
  | b :: r => (b, none) :: dels r
def nocBs : List Blk → Bool
  | [] => true
  | b :: r => b.noc && nocBs r

def maxNew : Nat := 8

/-- A call that hands its blocks on (mv), or lends them. -/
def callV (call : CallF) (mv : Bool) (h : Nat → Option Blk) (k f : Nat) (args : List V) : Option Dl :=
  match mv with
  | true =>
    bnd (some (reach h 100 (V.ids.L args) [])) fun l =>
    bnd (V.ren.L (fun b => idx b l 0) args) fun as0 => bnd (renBs h (fun b => idx b l 0) l) fun hs => bnd (somes hs) fun bs =>
    grd (nodup l = true) (bnd (call f as0 bs) fun r =>
    bnd (r.1.ren (back l k)) fun v => bnd (zipUp (back l k) l r.2.1) fun up => bnd (renNews (back l k) r.2.2) fun nb =>
    grd (nb.length ≤ maxNew) (some ⟨some v, nb, up⟩))
  | false =>
    bnd (toCons h args) fun as0 => bnd (call f as0 []) fun r =>
    bnd (r.1.ren (back [] k)) fun v => bnd (renNews (back [] k) r.2.2) fun nb =>
    grd (nb.length ≤ maxNew) (some ⟨some v, nb, cond (r.1.noc && nocBs r.2.2) [] (dels (V.ids.L args))⟩)

/-! ## Operations -/
def fill (tm : Nat → Option V) (place : List (Nat × Nat)) : List (Nat × Operand) → List V → Option (List V)
  | [], cs => some cs
  | (i, x) :: r, cs => bnd (place[i]?) fun fo => bnd (opd tm x) fun v => grd (v.cells.length = fo.2 ∧ fo.1 + v.cells.length ≤ cs.length) (fill tm place r (spl cs fo.1 v.cells))
def fillE (tm : Nat → Option V) (sz : Nat) : List (Nat × Operand) → List (List V) → Option (List (List V))
  | [], es => some es
  | (i, x) :: r, es => bnd (opd tm x) fun v => grd (v.cells.length = sz ∧ i < es.length) (fillE tm sz r (es.set i v.cells))
def closL : List (List V) → Bool
  | [] => true
  | c :: r => clos c && closL r
def onesL : List (List V) → Bool
  | [] => true
  | c :: r => ones c && onesL r
def fltsL : List (List V) → Bool
  | [] => true
  | c :: r => flts c && fltsL r

def evCall (E : Env) (call : CallF) (tm : Nat → Option V) (h : Nat → Option Blk) (k : Nat) (c : Call) : Option Dl :=
  match c.callee with
  | .value f => bnd (opd tm f) fun
      | .fn g caps => bnd (opds tm c.args.toList) fun vs => callV call (E.mv g) h k g (vs ++ caps)
      | _ => none
  | .builtin .len => bnd (opds tm c.args.toList) fun
      | [x] => match c.argTypes.toList with
          | [t] => bnd (lenV E.P t x) fun n => pureD (.lit (.int .i64 n))
          | _ => none
      | _ => none
  | .builtin .append => bnd (opds tm c.args.toList) fun
      | [x, y] => match c.argTypes.toList with
          | [t, u] => cnd (tnint E.P u) (cnd (selfRef x y) (appendW E.P h t x y) (appendV E.P h k t x y)) none
          | _ => none
      | _ => none
  | .builtin .copy => bnd (opds tm c.args.toList) fun
      | [x, y] => match c.argTypes.toList with
          | [t, _] => copyV E.P h t x y
          | _ => none
      | _ => none
  | .builtin .clear => bnd (opds tm c.args.toList) fun
      | [x] => match c.argTypes.toList with
          | [t] => clearV E.P h t x
          | _ => none
      | _ => none
  | .builtin .max => bnd (opds tm c.args.toList) fun
      | [.lit (.int i a), .lit (.int _ b)] => pureD (.lit (.int i (if b > a then b else a)))
      | _ => none
  | .builtin .min => bnd (opds tm c.args.toList) fun
      | [.lit (.int i a), .lit (.int _ b)] => pureD (.lit (.int i (if b < a then b else a)))
      | _ => none
  | _ => none

def intsOf : List (List V) → Option (List Int)
  | [] => some []
  | [.lit (.int .u8 n)] :: r => bnd (intsOf r) fun l => some (n :: l)
  | _ => none
def mkBytes (ns : List Int) : ByteArray := ns.foldl (fun r n => r.push (UInt8.ofNat n.toNat)) ByteArray.empty
def tu8 (P : Program) (t : Nat) : Bool := match P.underlying t with | some (.slice e) => (match P.underlying e with | some (.int .u8) => true | _ => false) | _ => false

def convV (P : Program) (h : Nat → Option Blk) (k src dst : Nat) (x : V) : Option Dl :=
  bnd (tagg P src) fun _ =>
  match x with
  | .lit (.int _ n) => bnd (tint P dst) fun j => pureD (.lit (.int j (j.wrap n)))
  | .lit (.string s) => cnd (tstr P dst) (pureD (.lit (.string s)))
      (cnd (tu8 P dst) (some ⟨some (.ref k 1 0 s.size), [⟨false, true, 1, byteCells s⟩], []⟩) none)
  | y => cnd (tu8 P src && tstr P dst) (bnd (elems h 1 y) fun q => bnd (intsOf q.2) fun ns => pureD (.lit (.string (mkBytes ns)))) none

def evOp (E : Env) (call : CallF) (tm : Nat → Option V) (h : Nat → Option Blk) (k : Nat) : Op → Option Dl
  | .move x => bnd (opd tm x) pureD
  | .assign x => bnd (opd tm x) pureD
  | .pick c a b => bnd (opd tm c) fun
      | .lit (.bool b0) => cnd b0 (bnd (opd tm a) pureD) (bnd (opd tm b) pureD)
      | _ => none
  | .alloc t => bnd (tzero E.P t) fun z => grd (z.cells.length = tsz E.P t ∧ ones z.cells = true) (some ⟨some (.ptr k (tsz E.P t) 0 0), [⟨true, false, tsz E.P t, [z.cells]⟩], []⟩)
  | .box t x => bnd (opd tm x) fun v => grd (v.cells.length = tsz E.P t ∧ ones v.cells = true) (some ⟨some (.ptr k (tsz E.P t) 0 0), [⟨true, false, tsz E.P t, [v.cells]⟩], []⟩)
  | .build t parts => bnd (tplaces E.P t) fun pl => bnd (tzero E.P t) fun z => bnd (fill tm pl parts.toList z.cells) fun cs => pureD (.agg cs)
  | .buildSlice t len parts => bnd (telem E.P t) fun e => bnd (tzero E.P e) fun z => cnd (Nat.beq len 0)
      (cnd parts.toList.isEmpty (some ⟨some (.ref k (tsz E.P e) 0 0), [⟨false, true, tsz E.P e, []⟩], []⟩) none)
      (grd (z.cells.length = tsz E.P e ∧ 0 < tsz E.P e ∧ 0 < len ∧ len * tsz E.P e ≤ 16777216)
      (bnd (fillE tm (tsz E.P e) parts.toList (List.replicate len z.cells)) fun es =>
      cnd (closL es && onesL es) (some ⟨some (.ref k (tsz E.P e) 0 len), [⟨false, fltsL es, tsz E.P e, es⟩], []⟩) none))
  | .makeSlice t len cap => bnd (telem E.P t) fun e => bnd (tzero E.P e) fun z => bnd (opd tm len) fun x => bnd (opd tm cap) fun y => match x, y with
      | .lit (.int _ n), .lit (.int _ m) => grd (z.cells.length = tsz E.P e ∧ ones z.cells = true ∧ clos z.cells = true ∧ 0 < tsz E.P e ∧ 0 ≤ n ∧ n = m ∧ capLim E.P e n.toNat)
          (some ⟨some (.ref k (tsz E.P e) 0 n.toNat), [⟨false, flts z.cells, tsz E.P e, List.replicate n.toNat z.cells⟩], []⟩)
      | _, _ => none
  | .load t a => bnd (opd tm a) fun p => bnd (loadV E.P h t p) pureD
  | .store t a x => bnd (opd tm a) fun p => bnd (opd tm x) fun v => storeV E.P h t p v
  | .nilCheck x => bnd (opd tm x) fun v => match v with
      | .ptr .. => pureD v
      | .cel .. => pureD v
      | _ => none
  | .binOp op t x y _ => bnd (opd tm x) fun a => bnd (opd tm y) fun b => bnd (binV E.P (E.te t) t op a b) pureD
  | .unOp op _ x => bnd (opd tm x) fun
      | .lit (.bool b) => match op with | .not => pureD (.lit (.bool !b)) | _ => none
      | .lit (.int i n) => match op with | .neg => pureD (.lit (.int i (i.wrap (0 - n)))) | _ => none
      | _ => none
  | .convert s t x => bnd (opd tm x) fun v => convV E.P h k s t v
  | .fieldAddr t x f => bnd (opd tm x) fun v => bnd (tfld E.P t f) fun o => grd (tsz E.P o.2 ≠ 0) (match v with
      | .ptr b sz i c => pureD (.ptr b sz i (c + o.1))
      | .cel fl sz es i c => pureD (.cel fl sz es i (c + o.1))
      | _ => none)
  | .field t x f => bnd (opd tm x) fun
      | .agg cs => bnd (tfld E.P t f) fun o => bnd (tagg E.P o.2) fun ag => grd (o.1 + tsz E.P o.2 ≤ cs.length) (bnd (mkV ag ((cs.drop o.1).take (tsz E.P o.2))) pureD)
      | _ => none
  | .indexAddr t x i => bnd (opd tm x) fun v => bnd (opd tm i) fun
      | .lit (.int _ n) => bnd (idxV E.P t v n) pureD
      | _ => none
  | .index t x i => bnd (opd tm x) fun v => bnd (opd tm i) fun j => match v, j with
      | .lit (.string b), .lit (.int _ n) => cnd (tstr E.P t) (grd (0 ≤ n ∧ n < b.size) (pureD (.lit (.int .u8 (((b[n.toNat]?).getD 0).toNat : Int))))) none
      | _, _ => none
  | .slice t x lo hi none => bnd (opd tm x) fun v =>
      bnd (match lo with | none => some none | some l => bnd (opd tm l) fun q => some (some q)) fun l =>
      bnd (match hi with | none => some none | some l => bnd (opd tm l) fun q => some (some q)) fun u =>
      bnd (orE (sliceV E.P t v l u) (sliceW E.P h t v l u)) pureD
  | .slice t x lo (some hi) (some mx) => bnd (opd tm x) fun v =>
      bnd (match lo with | none => some none | some l => bnd (opd tm l) fun q => some (some q)) fun l =>
      bnd (opd tm hi) fun u => bnd (opd tm mx) fun m =>
      bnd (sliceM E.P t v l u m) fun r => some ⟨r, [], []⟩
  | .extract x i => bnd (opd tm x) fun
      | .tup vs => bnd (vs[i]?) pureD
      | _ => none
  | .makeFunc (.func f) first caps => cond first.isEmpty (bnd (opds tm caps.toList) fun vs => pureD (.fn f vs)) none
  | .call c => evCall E call tm h k c
  | _ => none

/-! ## Regions -/
def gdst : List Oper → Nat → Option Nat
  | [], _ => none
  | o :: _, 0 => o.dst
  | _ :: r, j + 1 => gdst r j
/-- The number of the guard's temporary, what it must be. -/
def want (tm : Nat → Option V) (ops : List Oper) (o : Oper) : Option Bool :=
  match o.guard with
  | none => some true
  | some (j, w) => bnd (gdst ops j) fun t => bnd (tm t) fun
      | .lit (.bool b) => some (b == w)
      | .tup [] => some false
      | _ => none
def putT (tm : Nat → Option V) (d : Option Nat) (v : Option V) : Nat → Option V := match d with | some t => set tm t v | none => tm
def putN (h : Nat → Option Blk) : Nat → List Blk → Nat → Option Blk
  | _, [] => h
  | k, b :: r => putN (set h k (some b)) (k + 1) r
def putU (h : Nat → Option Blk) : List (Nat × Option Blk) → Nat → Option Blk
  | [] => h
  | (b, x) :: r => putU (set h b x) r
def ltO (d : Option Nat) (n : Nat) : Prop := match d with | some t => t < n | none => True
instance (d : Option Nat) (n : Nat) : Decidable (ltO d n) := by unfold ltO; cases d <;> infer_instance

def evOps (E : Env) (call : CallF) (ops : List Oper) : List Oper → Nat → St → Option St
  | [], k, s => some { s with nx := k }
  | o :: r, k, s => bnd (want s.tm ops o) fun w => cnd w
      (bnd (evOp E call s.tm s.h k o.op) fun d => grd (ltO o.dst s.nt)
        (evOps E call ops r (k + maxNew) { s with tm := putT s.tm o.dst d.v, h := putN (putU s.h d.up) k d.nb }))
      (grd (ltO o.dst s.nt) (evOps E call ops r (k + maxNew) { s with tm := putT s.tm o.dst (some (.tup [])) }))

/-! ## Code -/
def tms (tm : Nat → Option V) : List Nat → List V
  | [] => []
  | t :: r => match tm t with | some v => v :: tms tm r | none => tms tm r
def renT (f : Nat → Option Nat) (tm : Nat → Option V) : List Nat → Option (List (Nat × V))
  | [] => some []
  | t :: r => match tm t with
    | some v => bnd (v.ren f) fun w => bnd (renT f tm r) fun l => some ((t, w) :: l)
    | none => renT f tm r
def ofT : List (Nat × V) → Nat → Option V
  | [] => fun _ => none
  | (t, v) :: r => set (ofT r) t (some v)
def fsts : List (Nat × Nat) → List Nat
  | [] => []
  | (t, _) :: r => t :: fsts r
/-- A block that came in goes on under a new number. -/
def mvB (s : St) (b : Nat) : Option St := match Nat.blt b s.ni with
  | true => (match s.h b with
    | some x => (match x.box with
      | false => some { s with h := set (set s.h b none) s.nx (some x), nx := s.nx + 1 }
      | true => none)
    | none => none)
  | false => none
/-- A nil slice (of type y) that will grow is one over an empty block of one's own. -/
def ownN (P : Program) : List (Nat × Nat) → St → Option St
  | [], s => some s
  | (t, y) :: r, s => match y with
    | 0 => ownN P r s
    | y + 1 => match s.tm t with
      | some (.lit (.slice none 0 0)) => bnd (telem P (y + 1)) fun e => ownN P r { s with tm := set s.tm t (some (.ref s.nx (tsz P e) 0 0)), h := set s.h s.nx (some ⟨false, true, tsz P e, []⟩), nx := s.nx + 1 }
      | some (.ref b sz off n) => (match mvB s b with
        | some s1 => ownN P r { s1 with tm := set s1.tm t (some (.ref s.nx sz off n)) }
        | none => ownN P r s)
      | _ => ownN P r s
/-- What blocks reach. -/
def idsI (h : Nat → Option Blk) : List Nat → List Nat
  | [] => []
  | b :: r => idsB h b ++ idsI h r
/-- What is carried on: these temporaries, and what they reach; the blocks get the numbers 0, 1, .. . -/
def nrmT (l : List Nat) (s : St) : Option St :=
  bnd (some (reach s.h 100 (idsI s.h (rngL 0 s.ni) ++ V.ids.L (tms s.tm l)) (rngL 0 s.ni))) fun q =>
  bnd (renT (fun b => idx b q 0) s.tm l) fun ts => bnd (renBs s.h (fun b => idx b q 0) q) fun hs =>
  grd (nodup q = true ∧ q.take s.ni = rngL 0 s.ni) (some { tm := ofT ts, h := ofL hs, nx := hs.length, nt := s.nt, ni := s.ni })
def nrm (P : Program) (l : List (Nat × Nat)) (s : St) : Option St := bnd (ownN P l s) (nrmT (fsts l))

def loop (f : St → Option (Exit × St)) (nm : St → Option St) : Nat → St → Option (Exit × St)
  | 0, _ => none
  | n + 1, s => bnd (f s) fun r => match r with
      | (.normal, s') => bnd (nm s') (loop f nm n)
      | r => some r

def fuel : Nat := 10000000

/-- It neither looks at blocks nor makes or changes any. -/
def plain : Op → Bool
  | .move _ | .assign _ | .pick .. | .build .. | .nilCheck _ | .binOp .. | .unOp .. | .fieldAddr .. | .field .. | .indexAddr .. | .index .. | .extract .. | .makeFunc .. => true
  | .slice _ _ (some _) (some _) none => false
  | .slice .. => true
  | .call c => match c.callee with
    | .builtin .append => false
    | .builtin .copy => false
    | .builtin .clear => false
    | .builtin _ => true
    | _ => false
  | _ => false
/-- It makes and changes none. -/
def reads : Op → Bool
  | .load .. => true
  | .slice .. => true
  | op => plain op
/-- The blocks that it looks at. -/
def rdV (h : Nat → Option Blk) (E : Env) (tm : Nat → Option V) : Op → List Nat
  | .load _ x => match opd tm x with | some v => v.ids | none => []
  | .store _ x _ => match opd tm x with | some v => v.ids | none => []
  | .convert _ _ x => match opd tm x with | some v => v.ids | none => []
  | .slice _ x (some _) (some _) none => match opd tm x with | some v => v.ids | none => []
  | .call c => match c.callee with
    | .value f => match opd tm f with
      | some (.fn g caps) => match opds tm c.args.toList with
        | some vs => cond (E.mv g) (reach h 100 (V.ids.L (vs ++ caps)) []) (V.ids.L (vs ++ caps))
        | none => []
      | _ => []
    | .builtin .append => match opds tm c.args.toList with
      | some vs => V.ids.L vs
      | none => []
    | .builtin .copy => match opds tm c.args.toList with
      | some vs => V.ids.L vs
      | none => []
    | .builtin .clear => match opds tm c.args.toList with
      | some vs => V.ids.L vs
      | none => []
    | _ => []
  | _ => []
def keysU : List (Nat × Option Blk) → List Nat
  | [] => []
  | (b, _) :: r => b :: keysU r
abbrev Log := Nat → Option (List Nat × List Nat)
def evOpsD (E : Env) (call : CallF) (ops : List Oper) : List Oper → Nat → Nat → Log → St → Option (Log × St)
  | [], _, k, lg, s => some (lg, { s with nx := k })
  | o :: r, i, k, lg, s => bnd (want s.tm ops o) fun w => cnd w
      (bnd (evOp E call s.tm s.h k o.op) fun d => grd (ltO o.dst s.nt)
        (evOpsD E call ops r (i + 1) (k + maxNew) (set lg i (some (rdV s.h E s.tm o.op, keysU d.up ++ rngL k d.nb.length))) { s with tm := putT s.tm o.dst d.v, h := putN (putU s.h d.up) k d.nb }))
      (grd (ltO o.dst s.nt) (evOpsD E call ops r (i + 1) (k + maxNew) (set lg i (some ([], []))) { s with tm := putT s.tm o.dst (some (.tup [])) }))
def disj : List Nat → List Nat → Bool
  | [], _ => true
  | b :: r, l => !mem b l && disj r l
def entD (a b : List Nat × List Nat) : Bool := disj a.2 b.1 && (disj b.2 a.1 && disj a.2 b.2)
def chkRow (lg : Log) (j : Nat) : List Nat → Bool
  | [] => true
  | i :: r => (match lg j, lg i with
      | some a, some b => entD a b
      | _, _ => false) && chkRow lg j r
def chkLog (lg : Log) : List (Nat × List Nat) → Bool
  | [] => true
  | (j, l) :: r => chkRow lg j l && chkLog lg r

def pickT (tm : Nat → Option V) : List Nat → List (Nat × V)
  | [] => []
  | t :: r => match tm t with
    | some v => (t, v) :: pickT tm r
    | none => pickT tm r
/-- Behind a condition: what is still wanted (j: these temporaries; so many block numbers). -/
def jnS (j : Option (List Nat × Nat)) (nx : Nat) (r : Exit × St) : Option (Exit × St) := match j with
  | none => some r
  | some q => match r with
    | (.normal, s') => grd (s'.nx ≤ nx + q.2) (some (.normal, { s' with tm := ofT (pickT s'.tm q.1), nx := nx + q.2 }))
    | r => some r
/-- The number of the first region. -/
def firstId : Code → Option Nat
  | .region id _ _ => some id
  | .seq a b => match firstId a with | some i => some i | none => firstId b
  | .cond _ a b => match firstId a with | some i => some i | none => firstId b
  | .block _ a => firstId a
  | .loop a => firstId a
  | _ => none
def jof (E : Env) (f : Nat) (c : Code) : Option (List Nat × Nat) := match firstId c with
  | some i => E.Jn f i
  | none => none

/-- What is still wanted behind a loop. -/
def nrmX (E : Env) (f i : Nat) (r : Exit × St) : Option (Exit × St) := match r.1 with
  | .exit j => bnd (nrm E.P (E.An f (i + 10000000)) r.2) fun s => some (.exit j, s)
  | .ret => bnd (nrm E.P (E.An f 20000000) r.2) fun s => some (.ret, s)
  | _ => none

def evC (E : Env) (call : CallF) (f : Nat) : Code → Nat → St → Option (Exit × St)
  | .skip, _, s => some (.normal, s)
  | .region id ops draw, _, s => cond draw
      (bnd (evOpsD E call ops.toList ops.toList 0 s.nx (fun _ => none) s) fun q => cnd (chkLog q.1 (E.un f id)) (some (.normal, q.2)) none)
      (bnd (evOps E call ops.toList ops.toList s.nx s) fun s' => some (.normal, s'))
  | .seq a b, i, s => bnd (evC E call f a i s) fun r => match r with
      | (.normal, s') => evC E call f b i s'
      | r => some r
  | .cond c a b, i, s => bnd (opd s.tm c) fun
      | .lit (.bool b0) => bnd (cnd b0 (evC E call f a i s) (evC E call f b i s)) (jnS (jof E f (.seq a b)) s.nx)
      | _ => none
  | .block id a, _, s => bnd (evC E call f a id s) fun r => match r with
      | (.exit j, s') => if j = id then some (.normal, s') else some (.exit j, s')
      | r => some r
  | .loop a, i, s => bnd (nrm E.P (E.An f i) s) fun s1 => bnd (loop (evC E call f a i) (nrm E.P (E.An f i)) fuel s1) (nrmX E f i)
  | .exit id, _, s => some (.exit id, s)
  | .ret, _, s => some (.ret, s)
  | _, _, _ => none

def resl (P : Program) (s : St) : List ResultVar → Option (List V)
  | [] => some []
  | .tmp t :: r => bnd (s.tm t) fun v => bnd (resl P s r) fun vs => some (v :: vs)
  | .cell a t :: r => bnd (s.tm a) fun p => bnd (loadV P s.h t p) fun v => bnd (resl P s r) fun vs => some (v :: vs)
def pack : List V → V
  | [v] => v
  | vs => .tup vs
def pars : Nat → List V → List (Nat × V)
  | _, [] => []
  | i, v :: r => (i, v) :: pars (i + 1) r

/-- A slice of a kind from 1000000 on that goes back stands for a whole block. -/
def trB (e : Nat) (s : St) : V → Option (V × St)
  | .ref b sz off n => match Nat.ble 1000000 e with
    | true => bnd (s.h b) fun x => grd (x.box = false ∧ off = 0 ∧ n ≤ x.es.length) (some (.ref s.nx sz 0 n, { s with h := set (set s.h b none) s.nx (some { x with es := x.es.take n }), nx := s.nx + 1 }))
    | false => none
  | _ => none
/-- Nil slices that go back are ones over an empty block of one's own. -/
def ownL (P : Program) : List (Option Nat) → List V → St → List V × St
  | some e :: sl, v :: cs, s => match trB e s v with
    | some (w, s1) => (w :: (ownL P sl cs s1).1, (ownL P sl cs s1).2)
    | none => match v with
      | .lit (.slice none 0 0) => ((.ref s.nx (tsz P (e % 1000000)) 0 0) :: (ownL P sl cs { s with h := set s.h s.nx (some ⟨false, true, tsz P (e % 1000000), []⟩), nx := s.nx + 1 }).1, (ownL P sl cs { s with h := set s.h s.nx (some ⟨false, true, tsz P (e % 1000000), []⟩), nx := s.nx + 1 }).2)
      | .ref b sz off n => (match mvB s b with
        | some s1 => (.ref s.nx sz off n :: (ownL P sl cs s1).1, (ownL P sl cs s1).2)
        | none => (.ref b sz off n :: (ownL P sl cs s).1, (ownL P sl cs s).2))
      | v => (v :: (ownL P sl cs s).1, (ownL P sl cs s).2)
  | none :: sl, v :: cs, s => (v :: (ownL P sl cs s).1, (ownL P sl cs s).2)
  | _, cs, s => (cs, s)
def ownVs (P : Program) : List (List (Option Nat)) → List V → St → List V × St
  | sl :: r, v :: vs, s => match v with
      | .agg cs => (.agg (ownL P sl cs s).1 :: (ownVs P r vs (ownL P sl cs s).2).1, (ownVs P r vs (ownL P sl cs s).2).2)
      | v => ((ownL P sl [v] s).1 ++ (ownVs P r vs (ownL P sl [v] s).2).1, (ownVs P r vs (ownL P sl [v] s).2).2)
  | _, vs, s => (vs, s)
/-- What goes back: the result, and the blocks that it, or what came in, reaches. -/
def fin (s : St) (v : V) : Option Ret :=
  bnd (some (reach s.h 100 (idsI s.h (rngL 0 s.ni) ++ v.ids) (rngL 0 s.ni))) fun q =>
  bnd (v.ren fun b => idx b q 0) fun w => bnd (renBs s.h (fun b => idx b q 0) q) fun hs =>
  grd (nodup q = true ∧ q.take s.ni = rngL 0 s.ni) (bnd (somes (hs.drop s.ni)) fun nb => some (w, hs.take s.ni, nb))

open Classical in
/-- What two ways agree on. -/
noncomputable def both {α : Type} (x y : Option α) : Option α := if x = y then x else none
/-- A slice of which it is not known whether it is nil: either. -/
noncomputable def nlF (run : List V → Option Ret) : List V → Option Ret
  | [.con fl sz []] => both (run [.lit (.slice none 0 0)]) (run [.emp])
  | as0 => run as0
def evB (E : Env) (call : CallF) (f : Nat) (bs : List Blk) (args : List V) : Option Ret := match E.P.funcs[f]? with
  | some fn => match fn.body with
    | some c =>
      bnd (evC E call f c 1000000 ⟨ofT (pars 0 args), ofL (bs.map some), bs.length, args.length + (fn.ntmps - args.length), bs.length⟩) fun r =>
      match r.1 with
      | .normal | .ret => bnd (resl E.P r.2 fn.results.toList) fun vs => fin (ownVs E.P (E.On f) vs r.2).2 (pack (ownVs E.P (E.On f) vs r.2).1)
      | _ => none
    | none => none
  | none => none
noncomputable def evF (E : Env) : Nat → CallF
  | 0, _, _, _ => none
  | d + 1, f, args, bs => match E.G f with
    | some g => g args bs
    | none => cond (E.fs f) (cond (E.nl f) (nlF (evB E (evF E d) f bs) args) (evB E (evF E d) f bs args)) none
end Go.Ev
end

section
set_option linter.unusedVariables false
set_option linter.unusedSimpArgs false
set_option linter.unnecessarySimpa false
namespace Go.Ev
open Go
noncomputable section

/-! ## Words of symbolic evaluation -/
def sel {α : Type} (b : Bool) (x y : α) : α := match b with | true => x | false => y
def bothS {α : Type} (x y : Option α) : Option α := both x y
def letS {α β : Type} (x : α) (k : α → β) : β := k x
def bndS {α β : Type} (x : Option α) (k : α → Option β) : Option β := match x with | some a => k a | none => none
def sumS {α β γ : Type} (x : α ⊕ β) (f : α → γ) (g : β → γ) : γ := match x with | .inl a => f a | .inr b => g b
def okS {α : Type} (x : Option α) : Bool := x.isSome
def valS {α : Type} (x : Option α) (d : α) : α := x.getD d
def bEq (a b : Bool) : Bool := a == b
def iAdd (k : IntKind) (a b : Int) : Int := k.wrap (a + b)
def iSub (k : IntKind) (a b : Int) : Int := k.wrap (a - b)
def iMul (k : IntKind) (a b : Int) : Int := k.wrap (a * b)
def iQuo (k : IntKind) (a b : Int) : Int := k.wrap (a.tdiv b)
def iRem (a b : Int) : Int := a.tmod b
def iAnd (k : IntKind) (a b : Int) : Int := k.wrap ((BitVec.ofInt k.bits a &&& BitVec.ofInt k.bits b).toNat)
def iOr (k : IntKind) (a b : Int) : Int := k.wrap ((BitVec.ofInt k.bits a ||| BitVec.ofInt k.bits b).toNat)
def iXor (k : IntKind) (a b : Int) : Int := k.wrap ((BitVec.ofInt k.bits a ^^^ BitVec.ofInt k.bits b).toNat)
def iShl (k : IntKind) (a b : Int) : Int := k.wrap (a * 2 ^ (min b.toNat k.bits))
def iShr (k : IntKind) (a b : Int) : Int := a.fdiv (2 ^ (min b.toNat k.bits))
def iNeg (k : IntKind) (a : Int) : Int := k.wrap (0 - a)
def iCv (k : IntKind) (a : Int) : Int := k.wrap a
def iEq (a b : Int) : Bool := a == b
def iLt (a b : Int) : Bool := decide (a < b)
def iLe (a b : Int) : Bool := decide (a ≤ b)
def pAdd (a b : Int) : Int := a + b
def pSub (a b : Int) : Int := a - b
def oNz (b : Int) : Bool := !(b == 0)
def sAdd (a b : ByteArray) : ByteArray := a ++ b
def sEq (a b : ByteArray) : Bool := a.toList == b.toList
def sLt (a b : ByteArray) : Bool := Op.bytesLess a.toList b.toList
def sLen (s : ByteArray) : Int := s.size
def sAt (s : ByteArray) (n : Int) : Int := (((s[n.toNat]?).getD 0).toNat : Int)
def sCut (s : ByteArray) (lo hi : Int) : ByteArray := s.extract lo.toNat hi.toNat
def sOf (l : List Int) : ByteArray := mkBytes l
def sBy (s : ByteArray) : List Int := s.data.toList.map fun b => (b.toNat : Int)
def sOk (a b : ByteArray) : Bool := decide (a.size + b.size ≤ 9223372036854775807)
def oIn (n len : Int) : Bool := decide (0 ≤ n) && decide (n < len)
def oCut (lo hi len : Int) : Bool := decide (0 ≤ lo) && (decide (lo ≤ hi) && decide (hi ≤ len))
def lLen {α : Type} (l : List α) : Int := l.length
def lAt {α : Type} [Inhabited α] (l : List α) (n : Int) : α := (l[n.toNat]?).getD default
def lSet {α : Type} (l : List α) (n : Int) (x : α) : List α := l.set n.toNat x
def lApp {α : Type} (l m : List α) : List α := l ++ m
def lCut {α : Type} (l : List α) (lo hi : Int) : List α := (l.take hi.toNat).drop lo.toNat
def lCpy {α : Type} (l : List α) (lo hi : Int) (q : List α) : List α := l.take lo.toNat ++ (q.take (hi - lo).toNat ++ l.drop (lo.toNat + min q.length (hi - lo).toNat))
def lCpN {α : Type} (n : Int) (q : List α) : Int := ((min q.length n.toNat : Nat) : Int)
def lRep {α : Type} (n : Int) (x : α) : List α := List.replicate n.toNat x
def lCap {α : Type} (c : Int) (l : List α) : Bool := decide ((l.length : Int) * (c + 1) ≤ 140737488355328)
def nCap (c n : Int) : Bool := decide (0 ≤ n) && decide (n * (c + 1) ≤ 140737488355328)
instance (t : Ty) : Inhabited t.T := ⟨t.dflt⟩

def bs (l : List Nat) : ByteArray := ⟨(l.map UInt8.ofNat).toArray⟩
def bNot (b : Bool) : Bool := sel b false true
def bAnd (a b : Bool) : Bool := sel a b false
def bOr (a b : Bool) : Bool := sel a true b
end
end Go.Ev
end

section
set_option linter.unusedVariables false
set_option linter.unusedSimpArgs false
set_option linter.unnecessarySimpa false
namespace Go.Ev
open Go
noncomputable section

/-! ## Plain data as0 cells -/
def enc : (t : Ty) → t.T → List V
  | .int k, n => [.lit (.int k n)]
  | .bool, b => [.lit (.bool b)]
  | .str, s => [.lit (.string s)]
  | .sl e, l => [.arr e l]
  | .pr a b, x => enc a x.1 ++ enc b x.2
def asL (e : Ty) : V → Option (List e.T)
  | .arr t l => Ty.cast (.sl t) (.sl e) l
  | .lit (.slice none 0 0) => some []
  | _ => none
def dec : (t : Ty) → List V → Option (t.T × List V)
  | .int k, cs => match cs with
    | .lit (.int k' n) :: r => (match Nat.beq (kindN k) (kindN k') with | true => some (n, r) | false => none)
    | _ => none
  | .bool, cs => match cs with
    | .lit (.bool b) :: r => some (b, r)
    | _ => none
  | .str, cs => match cs with
    | .lit (.string s) :: r => some (s, r)
    | _ => none
  | .sl e, cs => match cs with
    | v :: r => (match asL e v with | some l => some (l, r) | none => none)
    | _ => none
  | .pr a b, cs => match dec a cs with
    | some (x, r) => (match dec b r with | some (y, r') => some ((x, y), r') | none => none)
    | none => none
def dec1 (t : Ty) (cs : List V) : Option t.T := match dec t cs with
  | some (x, []) => some x
  | _ => none

def mkArr (t : Ty) (l : List t.T) : Blk := ⟨false, t.flat, t.size, [[.arr t l]]⟩
def blkT (h : Nat → Option Blk) (b : Nat) : Option (Sigma fun t : Ty => List t.T) := match h b with
  | some ⟨false, _, _, [[.arr t l]]⟩ => some ⟨t, l⟩
  | _ => none
def kCon (h : Nat → Option Blk) : V → Option V
  | .lit v => some (.lit v)
  | .arr t l => some (.arr t l)
  | .own b => match blkT h b with | some ⟨t, l⟩ => some (.arr t l) | none => none
  | .sub b lo hi => match blkT h b with | some ⟨t, l⟩ => some (.arr t (lCut l lo hi)) | none => none
  | _ => none
def kConl (h : Nat → Option Blk) : List V → Option (List V)
  | [] => some []
  | v :: r => bnd (kCon h v) fun c => bnd (kConl h r) fun vs => some (c :: vs)
def kCons (h : Nat → Option Blk) : List V → Option (List V)
  | [] => some []
  | v :: r => match v with
    | .agg cs => bnd (kConl h cs) fun c => bnd (kCons h r) fun vs => some (.agg c :: vs)
    | v => bnd (kCon h v) fun c => bnd (kCons h r) fun vs => some (c :: vs)

/-! ## Two ways that meet -/
def mrgL (z : Bool) : Value → Value → Option Value
  | .int k a, .int k' b => match Nat.beq (kindN k) (kindN k') with | true => some (.int k (sel z a b)) | false => none
  | .bool a, .bool b => some (.bool (sel z a b))
  | .string a, .string b => some (.string (sel z a b))
  | .slice none 0 0, .slice none 0 0 => some (.slice none 0 0)
  | _, _ => none
def mrg (z : Bool) : V → V → Option V
  | .lit a, w => match w with
    | .lit b => bnd (mrgL z a b) fun v => some (.lit v)
    | .arr t l => (match a with | .slice none 0 0 => some (.arr t (sel z [] l)) | _ => none)
    | .kb b => bnd (mrgL z a (.bool b)) fun v => some (.lit v)
    | _ => none
  | .arr t l, w => match w with
    | .arr t' l' => bnd (Ty.cast (.sl t') (.sl t) l') fun q => some (.arr t (sel z l q))
    | .lit (.slice none 0 0) => some (.arr t (sel z l []))
    | _ => none
  | .own b, w => match w with
    | .own b' => (match Nat.beq b b' with | true => some (.own b) | false => none)
    | _ => none
  | .sub b lo hi, w => match w with
    | .sub b' lo' hi' => (match Nat.beq b b' with | true => some (.sub b (sel z lo lo') (sel z hi hi')) | false => none)
    | _ => none
  | .pto b n c, w => match w with
    | .pto b' n' c' => (match Nat.beq b b', Nat.beq c c' with | true, true => some (.pto b (sel z n n') c) | _, _ => none)
    | _ => none
  | .ptr b s i c, w => match w with
    | .ptr b' s' i' c' => (match Nat.beq b b', Nat.beq s s', Nat.beq i i', Nat.beq c c' with | true, true, true, true => some (.ptr b s i c) | _, _, _, _ => none)
    | _ => none
  | .agg cs, w => match w with
    | .agg ds => bnd (L z cs ds) fun l => some (.agg l)
    | _ => none
  | .kb a, w => match w with
    | .lit (.bool b) => some (.lit (.bool (sel z a b)))
    | .kb b => some (.lit (.bool (sel z a b)))
    | _ => none
  | _, _ => none
  where L (z : Bool) : List V → List V → Option (List V)
    | [], w => match w with
      | [] => some []
      | _ => none
    | c :: cs, w => match w with
      | d :: ds => bnd (mrg z c d) fun v => bnd (L z cs ds) fun l => some (v :: l)
      | [] => none

/-! ## Operations -/
structure KD where
  v : Option V
  nb : List Blk
  up : List (Nat × Option Blk)
  ob : List Bool
def kp (v : V) : Option KD := some ⟨some v, [], [], []⟩
def kpo (v : V) (ob : List Bool) : Option KD := some ⟨some v, [], [], ob⟩
/-- Words that are unfolded before those of P0. -/
def up1 {α : Type} (x : α) : α := x
def up2 {α : Type} (x : α) : α := up1 x
def up3 {α : Type} (x : α) : α := up2 x
/-- n: where (the tool's own copy tells where nothing comes). -/
def bndF {α β : Type} (n : Nat) (x : Option α) (f : α → Option β) : Option β := match up3 x with
  | some a => f a
  | none => none
def ckF {α : Type} (n : Nat) (b : Bool) (x : Option α) : Option α := match up3 b with
  | true => x
  | false => none
def ck {α : Type} (b : Bool) (x : Option α) : Option α := match b with | true => x | false => none

def kIntBin (op : BinOp) (k : IntKind) (a b : Int) : Option KD := match op with
  | .add => kp (.lit (.int k (iAdd k a b)))
  | .sub => kp (.lit (.int k (iSub k a b)))
  | .mul => kp (.lit (.int k (iMul k a b)))
  | .quo => kpo (.lit (.int k (iQuo k a b))) [oNz b]
  | .rem => kpo (.lit (.int k (iRem a b))) [oNz b]
  | .and => kp (.lit (.int k (iAnd k a b)))
  | .or => kp (.lit (.int k (iOr k a b)))
  | .xor => kp (.lit (.int k (iXor k a b)))
  | .eql => kp (.lit (.bool (iEq a b)))
  | .neq => kp (.lit (.bool (bNot (iEq a b))))
  | .lss => kp (.lit (.bool (iLt a b)))
  | .leq => kp (.lit (.bool (iLe a b)))
  | .gtr => kp (.lit (.bool (iLt b a)))
  | .geq => kp (.lit (.bool (iLe b a)))
  | _ => none
def kShBin (op : BinOp) (k : IntKind) (a b : Int) : Option KD := match op with
  | .shl => kpo (.lit (.int k (iShl k a b))) [iLe 0 b]
  | .shr => kpo (.lit (.int k (iShr k a b))) [iLe 0 b]
  | _ => none
def kStrBin (op : BinOp) (a b : ByteArray) : Option KD := match op with
  | .add => kpo (.lit (.string (sAdd a b))) [sOk a b]
  | .eql => kp (.lit (.bool (sEq a b)))
  | .neq => kp (.lit (.bool (bNot (sEq a b))))
  | .lss => kp (.lit (.bool (sLt a b)))
  | .leq => kp (.lit (.bool (bOr (sLt a b) (sEq a b))))
  | .gtr => kp (.lit (.bool (bNot (bOr (sLt a b) (sEq a b)))))
  | .geq => kp (.lit (.bool (bNot (sLt a b))))
  | _ => none
def kLitEq (k : Nat) (x y : Value) : Option Bool := match k, x, y with
  | 0, .int k a, .int k' b => match Nat.beq (kindN k) (kindN k') with | true => some (iEq a b) | false => none
  | 1, .bool a, .bool b => some (bEq a b)
  | 2, .string a, .string b => some (sEq a b)
  | _, _, _ => none
def kCells : List Nat → List V → List V → Option Bool
  | [], [], [] => some true
  | k :: ks, .lit a :: x, .lit b :: y => bnd (kLitEq k a b) fun r => bnd (kCells ks x y) fun q => some (match ks with | [] => r | _ => bAnd r q)
  | _, _, _ => none
def kBin (P : Program) (te : Option (List Nat)) (t : Nat) (op : BinOp) (x y : V) : Option KD :=
  match x, y with
  | .lit (.int k a), .lit (.int k' b) => (match isShift op with | true => kShBin op k a b | false => ck (Nat.beq (kindN k) (kindN k')) (kIntBin op k a b))
  | .lit (.string a), .lit (.string b) => kStrBin op a b
  | .lit (.bool a), .lit (.bool b) => ck (tbool P t) (match op with | .eql => kp (.lit (.bool (bEq a b))) | .neq => kp (.lit (.bool (bNot (bEq a b)))) | _ => none)
  | .agg xs, .agg ys => bnd te fun ks => bnd (kCells ks xs ys) fun b => (match tagg P t with
    | some true => (match op with
      | .eql => kp (.lit (.bool b))
      | .neq => kp (.lit (.bool (bNot b)))
      | _ => none)
    | _ => none)
  | .lit (.slice none 0 0), .lit (.slice none 0 0) => bnd (telem P t) fun _ => bnd (nilCmp op true) kp
  | .emp, .lit (.slice none 0 0) => bnd (telem P t) fun _ => bnd (nilCmp op false) kp
  | .arr _ l, .lit (.slice none 0 0) => bnd (telem P t) fun _ => bnd (nilCmp op false) fun v => kpo v [iLt 0 (lLen l)]
  | _, _ => none

def kLoad (P : Program) (h : Nat → Option Blk) (t : Nat) (a : V) : Option KD := match a with
  | .ptr b sz i c => bnd (h b) fun blk => ck blk.box (bnd (blk.es[i]?) fun cs => bnd (tagg P t) fun ag => ck (Nat.beq sz blk.sz) (ck (Nat.ble (c + tsz P t) cs.length) (bnd (mkV ag ((cs.drop c).take (tsz P t))) kp)))
  | .pto b n c => match blkT h b with
    | some ⟨t', l⟩ => bnd (tagg P t) fun ag => ck (Nat.ble (c + tsz P t) t'.size) (bnd (mkV ag (((enc t' (lAt l n)).drop c).take (tsz P t))) kp)
    | none => none
  | .cur t' l n c => bnd (tagg P t) fun ag => ck (Nat.ble (c + tsz P t) t'.size) (bnd (mkV ag (((enc t' (lAt l n)).drop c).take (tsz P t))) kp)
  | _ => none
def kStore (P : Program) (h : Nat → Option Blk) (t : Nat) (a v : V) : Option KD := match a with
  | .ptr b sz i c => bnd (h b) fun blk => ck blk.box (bnd (blk.es[i]?) fun cs => bnd (tagg P t) fun _ => ck (Nat.beq sz blk.sz) (ck (Nat.beq v.cells.length (tsz P t)) (ck (Nat.ble (c + tsz P t) cs.length) (ck (ones v.cells)
      (some ⟨none, [], [(b, some { blk with es := blk.es.set i (spl cs c v.cells) })], []⟩)))))
  | .pto b n c => match blkT h b with
    | some ⟨t', l⟩ => bnd (tagg P t) fun _ => ck t'.flat (ck (Nat.beq v.cells.length (tsz P t)) (ck (Nat.ble (c + tsz P t) t'.size) (bnd (dec1 t' (spl (enc t' (lAt l n)) c v.cells)) fun x => some ⟨none, [], [(b, some (mkArr t' (lSet l n x)))], []⟩)))
    | none => none
  | _ => none

def kLen (P : Program) (h : Nat → Option Blk) (t : Nat) : V → Option Int
  | .lit (.string s) => ck (tstr P t) (some (sLen s))
  | .lit (.slice none 0 _) => bnd (telem P t) fun _ => some 0
  | .arr _ l => bnd (telem P t) fun _ => some (lLen l)
  | .own b => bnd (telem P t) fun _ => match blkT h b with | some ⟨_, l⟩ => some (lLen l) | none => none
  | .sub _ lo hi => bnd (telem P t) fun _ => some (pSub hi lo)
  | _ => none
def kIdx (P : Program) (h : Nat → Option Blk) (t : Nat) (x : V) (n : Int) : Option KD := bnd (telem P t) fun e => match x with
  | .arr t' l => ck (Nat.beq t'.size (tsz P e)) (kpo (.cur t' l n 0) [oIn n (lLen l)])
  | .own b => match blkT h b with
    | some ⟨t', l⟩ => ck (Nat.beq t'.size (tsz P e)) (kpo (.pto b n 0) [oIn n (lLen l)])
    | none => none
  | .sub b lo hi => match blkT h b with
    | some ⟨t', _⟩ => ck (Nat.beq t'.size (tsz P e)) (kpo (.pto b (pAdd lo n) 0) [oIn n (pSub hi lo)])
    | none => none
  | _ => none
def kBnd : Option V → Int → Option Int
  | none, d => some d
  | some (.lit (.int _ k)), _ => some k
  | _, _ => none
def kSlice0 (P : Program) (h : Nat → Option Blk) (t : Nat) (x : V) (lo hi : Option V) : Option KD := match x with
  | .lit (.string s) => ck (tstr P t) (bnd (kBnd hi (sLen s)) fun u => bnd (kBnd lo 0) fun l => kpo (.lit (.string (sCut s l u))) [oCut l u (sLen s)])
  | .lit (.slice none 0 c) => bnd (telem P t) fun e => ck (Nat.blt 0 (tsz P e)) (bnd (kBnd hi 0) fun u => bnd (kBnd lo 0) fun l => kpo (.lit (.slice none 0 c)) [oCut l u 0])
  | .arr t' q => bnd (telem P t) fun e => ck (Nat.beq t'.size (tsz P e)) (bnd (kBnd hi (lLen q)) fun u => bnd (kBnd lo 0) fun l => kpo (.arr t' (lCut q l u)) [oCut l u (lLen q)])
  | .own b => match blkT h b with
    | some ⟨t', q⟩ => bnd (telem P t) fun e => ck (Nat.beq t'.size (tsz P e)) (bnd (kBnd hi (lLen q)) fun u => bnd (kBnd lo 0) fun l => kpo (.sub b l u) [oCut l u (lLen q)])
    | none => none
  | .sub b l0 u0 => match blkT h b with
    | some ⟨t', _⟩ => bnd (telem P t) fun e => ck (Nat.beq t'.size (tsz P e)) (bnd (kBnd hi (pSub u0 l0)) fun u => bnd (kBnd lo 0) fun l => kpo (.sub b (pAdd l0 l) (pAdd l0 u)) [oCut l u (pSub u0 l0)])
    | none => none
  | _ => none

def kSlice (P : Program) (h : Nat → Option Blk) (t : Nat) (x : V) (lo hi : Option V) : Option KD := match x, lo, hi with
  | .sub b l0 _, some l', some u' => (match blkT h b with
    | some ⟨t', q⟩ => bnd (telem P t) fun e => ck (Nat.beq t'.size (tsz P e)) (bnd (kBnd (some u') 0) fun u => bnd (kBnd (some l') 0) fun l => kpo (.sub b (pAdd l0 l) (pAdd l0 u)) [oCut l u (pSub (lLen q) l0)])
    | none => none)
  | x, lo, hi => kSlice0 P h t x lo hi
def kLen3 (h : Nat → Option Blk) : V → Option Int
  | .own b => (match blkT h b with | some ⟨_, l⟩ => some (lLen l) | none => none)
  | .sub _ lo hi => some (pSub hi lo)
  | .arr _ l => some (lLen l)
  | .lit (.slice none 0 0) => some 0
  | _ => none
def kSliceM (P : Program) (h : Nat → Option Blk) (t : Nat) (x : V) (lo : Option V) (hi mx : V) : Option KD :=
  bnd (telem P t) fun e => ck (Nat.blt 0 (tsz P e)) (bnd (kLen3 h x) fun n => match mx with
    | .lit (.int _ m) => bnd (kBnd (some hi) 0) fun u => bnd (kBnd lo 0) fun l => some ⟨none, [], [], [oCut 0 m n, oCut l u m]⟩
    | _ => none)

/-- The type of plain data that a type of the program is. -/
def tyFs (g : Nat → Option Ty) : List Field → Option Ty
  | [] => none
  | [f] => g f.type
  | f :: r => bnd (g f.type) fun a => bnd (tyFs g r) fun b => some (.pr a b)
def tyOf (P : Program) : Nat → Nat → Option Ty
  | 0, _ => none
  | d + 1, t => match P.underlying t with
    | some (.int k) => some (.int k)
    | some .bool => some .bool
    | some .string => some .str
    | some (.slice e) => bnd (tyOf P d e) fun a => some (.sl a)
    | some (.struct fs) => tyFs (tyOf P d) fs.toList
    | _ => none
def kEl (P : Program) (h : Nat → Option Blk) (e : Nat) : V → Option (Sigma fun t : Ty => List t.T)
  | .lit (.string s) => ck (Nat.beq (tsz P e) 1) (some ⟨.int .u8, sBy s⟩)
  | .lit (.slice none 0 _) => bnd (tyOf P 9 e) fun t => some ⟨t, []⟩
  | .emp => bnd (tyOf P 9 e) fun t => some ⟨t, []⟩
  | .arr t l => some ⟨t, l⟩
  | .own b => blkT h b
  | .sub b lo hi => match blkT h b with | some ⟨t, l⟩ => some ⟨t, lCut l lo hi⟩ | none => none
  | _ => none
def kSelf (b : Nat) : V → Bool
  | .own b' => Nat.beq b b'
  | .sub b' _ _ => Nat.beq b b'
  | _ => false
def kClear (P : Program) (h : Nat → Option Blk) (t : Nat) (x : V) : Option KD :=
  bnd (telem P t) fun e => bnd (tzero P e) fun z => ck (Nat.beq z.cells.length (tsz P e)) (ck (ones z.cells) (ck (flts z.cells) (match x with
    | .own b => (match blkT h b with
      | some ⟨t0, l0⟩ => ck (Nat.beq t0.size (tsz P e)) (bnd (dec1 t0 z.cells) fun x0 => some ⟨none, [], [(b, some (mkArr t0 (lRep (lLen l0) x0)))], []⟩)
      | none => none)
    | .sub b lo hi => (match blkT h b with
      | some ⟨t0, l0⟩ => ck (Nat.beq t0.size (tsz P e)) (bnd (dec1 t0 z.cells) fun x0 => some ⟨none, [], [(b, some (mkArr t0 (lCpy l0 lo hi (lRep (pSub hi lo) x0))))], []⟩)
      | none => none)
    | _ => none)))
def kAppend (P : Program) (h : Nat → Option Blk) (k t : Nat) (x y : V) : Option KD :=
  bnd (telem P t) fun e => bnd (tzero P e) fun z => ck (Nat.beq z.cells.length (tsz P e)) (match kEl P h e y with
    | some ⟨t', l'⟩ => ck (Nat.beq t'.size (tsz P e)) (match x with
      | .lit (.slice none 0 0) => some ⟨some (.own k), [mkArr t' l'], [], [lCap (tbytes P e) l']⟩
      | .own b => ck (Bool.not (kSelf b y)) (match blkT h b with
        | some ⟨t0, l0⟩ => ck (Nat.beq t0.size (tsz P e)) (bnd (Ty.cast (.sl t') (.sl t0) l') fun q => some ⟨some (.own k), [mkArr t0 (lApp l0 q)], [(b, none)], [lCap (tbytes P e) (lApp l0 q)]⟩)
        | none => none)
      | .sub b lo hi => ck (kSelf b y) (match blkT h b with
        | some ⟨t0, l0⟩ => ck t0.flat (ck (Nat.beq t0.size (tsz P e)) (bnd (Ty.cast (.sl t') (.sl t0) l') fun q => some ⟨some (.sub b lo (pAdd hi (lLen q))), [], [(b, some (mkArr t0 (lCpy l0 hi (pAdd hi (lLen q)) q)))], [iLe (pAdd hi (lLen q)) (lLen l0)]⟩))
        | none => none)
      | _ => none)
    | none => none)
def kCopy (P : Program) (h : Nat → Option Blk) (t : Nat) (x y : V) : Option KD :=
  bnd (telem P t) fun e => (match kEl P h e y with
    | some ⟨t', l'⟩ => ck (Nat.beq t'.size (tsz P e)) (match x with
      | .own b => (match blkT h b with
        | some ⟨t0, l0⟩ => ck t0.flat (ck (Nat.beq t0.size (tsz P e)) (bnd (Ty.cast (.sl t') (.sl t0) l') fun q => some ⟨some (.lit (.int .i64 (lCpN (lLen l0) q))), [], [(b, some (mkArr t0 (lCpy l0 0 (lLen l0) q)))], []⟩))
        | none => none)
      | .sub b lo hi => (match blkT h b with
        | some ⟨t0, l0⟩ => ck t0.flat (ck (Nat.beq t0.size (tsz P e)) (bnd (Ty.cast (.sl t') (.sl t0) l') fun q => some ⟨some (.lit (.int .i64 (lCpN (pSub hi lo) q))), [], [(b, some (mkArr t0 (lCpy l0 lo hi q)))], []⟩))
        | none => none)
      | _ => none)
    | none => none)
def kZero (P : Program) (e : Nat) (ty : Ty) : Option ty.T := bnd (tzero P e) fun z => ck (Nat.beq z.cells.length (tsz P e)) (dec1 ty z.cells)
def kFill (o : Operand → Option V) (ty : Ty) : List (Nat × Operand) → List ty.T → Option (List ty.T)
  | [], l => some l
  | (i, x) :: r, l => bnd (o x) fun v => bnd (dec1 ty v.cells) fun y => ck (Nat.blt i l.length) (kFill o ty r (l.set i y))
def kFillC (o : Operand → Option V) (place : List (Nat × Nat)) : List (Nat × Operand) → List V → Option (List V)
  | [], cs => some cs
  | (i, x) :: r, cs => bnd (place[i]?) fun fo => bnd (o x) fun v => ck (Nat.beq v.cells.length fo.2) (ck (Nat.ble (fo.1 + v.cells.length) cs.length) (kFillC o place r (spl cs fo.1 v.cells)))
def sameTmp : Operand → Operand → Bool
  | .tmp a, .tmp b => Nat.beq a b
  | _, _ => false
def kConv (P : Program) (h : Nat → Option Blk) (k src dst : Nat) (x : V) : Option KD :=
  bnd (tagg P src) fun _ =>
  match x with
  | .lit (.int _ n) => bnd (tint P dst) fun j => kp (.lit (.int j (iCv j n)))
  | .lit (.string s) => (match tstr P dst with
    | true => kp (.lit (.string s))
    | false => ck (tu8 P dst) (some ⟨some (.own k), [mkArr (.int .u8) (sBy s)], [], []⟩))
  | y => (match tu8 P src, tstr P dst with
    | true, true => (match y with
      | .lit (.slice none 0 _) => kp (.lit (.string (sOf [])))
      | .arr t l => bnd (Ty.cast (.sl t) (.sl (.int .u8)) l) fun q => kp (.lit (.string (sOf q)))
      | .own b => (match blkT h b with | some ⟨t, l⟩ => bnd (Ty.cast (.sl t) (.sl (.int .u8)) l) fun q => kp (.lit (.string (sOf q))) | none => none)
      | .sub b lo hi => (match blkT h b with | some ⟨t, l⟩ => bnd (Ty.cast (.sl t) (.sl (.int .u8)) l) fun q => kp (.lit (.string (sOf (lCut q lo hi)))) | none => none)
      | _ => none)
    | _, _ => none)
def kOpds (o : Operand → Option V) : List Operand → Option (List V)
  | [] => some []
  | x :: r => bnd (o x) fun v => bnd (kOpds o r) fun vs => some (v :: vs)
def kOpt (o : Operand → Option V) : Option Operand → Option (Option V)
  | none => some none
  | some l => bnd (o l) fun q => some (some q)
/-- Every operation but the calls of functions and `pick`. -/
def kOp (E : Env) (o : Operand → Option V) (h : Nat → Option Blk) (k : Nat) : Op → Option KD
  | .move x => bnd (o x) kp
  | .assign x => bnd (o x) kp
  | .alloc t => bnd (tzero E.P t) fun z => ck (Nat.beq z.cells.length (tsz E.P t)) (ck (ones z.cells) (some ⟨some (.ptr k (tsz E.P t) 0 0), [⟨true, false, tsz E.P t, [z.cells]⟩], [], []⟩))
  | .box t x => bnd (o x) fun v => ck (Nat.beq v.cells.length (tsz E.P t)) (ck (ones v.cells) (some ⟨some (.ptr k (tsz E.P t) 0 0), [⟨true, false, tsz E.P t, [v.cells]⟩], [], []⟩))
  | .build t parts => bnd (tplaces E.P t) fun pl => bnd (tzero E.P t) fun z => bnd (kFillC o pl parts.toList z.cells) fun cs => kp (.agg cs)
  | .buildSlice t len parts => bnd (telem E.P t) fun e => bnd (tyOf E.P 9 e) fun ty => ck (Nat.beq ty.size (tsz E.P e)) (bnd (kZero E.P e ty) fun x0 => (match Nat.beq len 0 with
      | true => ck parts.toList.isEmpty (some ⟨some (.own k), [mkArr ty []], [], []⟩)
      | false => ck (Nat.blt 0 (tsz E.P e)) (ck (Nat.ble (len * tsz E.P e) 16777216) (bnd (kFill o ty parts.toList (List.replicate len x0)) fun l => some ⟨some (.own k), [mkArr ty l], [], []⟩))))
  | .makeSlice t len cap => bnd (telem E.P t) fun e => bnd (tyOf E.P 9 e) fun ty => ck (Nat.beq ty.size (tsz E.P e)) (bnd (kZero E.P e ty) fun x0 => ck (Nat.blt 0 (tsz E.P e)) (bnd (o len) fun x => bnd (o cap) fun y => (match x, y with
      | .lit (.int _ n), .lit (.int _ m) => some ⟨some (.own k), [mkArr ty (lRep n x0)], [], (match sameTmp len cap with | true => [nCap (tbytes E.P e) n] | false => [iEq n m, nCap (tbytes E.P e) n])⟩
      | _, _ => none)))
  | .load t a => bnd (o a) fun p => kLoad E.P h t p
  | .store t a x => bnd (o a) fun p => bnd (o x) fun v => kStore E.P h t p v
  | .nilCheck x => bnd (o x) fun v => match v with
      | .ptr .. => kp v
      | .pto .. => kp v
      | .cur .. => kp v
      | _ => none
  | .binOp op t x y _ => bnd (o x) fun a => bnd (o y) fun b => kBin E.P (E.te t) t op a b
  | .unOp op _ x => bnd (o x) fun v => match v with
      | .lit (.bool b) => (match op with | .not => kp (.lit (.bool (bNot b))) | _ => none)
      | .lit (.int i n) => (match op with | .neg => kp (.lit (.int i (iNeg i n))) | _ => none)
      | _ => none
  | .convert s t x => bnd (o x) fun v => kConv E.P h k s t v
  | .fieldAddr t x f => bnd (o x) fun v => bnd (tfld E.P t f) fun q => ck (Nat.blt 0 (tsz E.P q.2)) (match v with
      | .ptr b sz i c => kp (.ptr b sz i (c + q.1))
      | .pto b n c => kp (.pto b n (c + q.1))
      | .cur t' l n c => kp (.cur t' l n (c + q.1))
      | _ => none)
  | .field t x f => bnd (o x) fun v => match v with
      | .agg cs => bnd (tfld E.P t f) fun q => bnd (tagg E.P q.2) fun ag => ck (Nat.ble (q.1 + tsz E.P q.2) cs.length) (bnd (mkV ag ((cs.drop q.1).take (tsz E.P q.2))) kp)
      | _ => none
  | .indexAddr t x i => bnd (o x) fun v => bnd (o i) fun j => match j with
      | .lit (.int _ n) => kIdx E.P h t v n
      | _ => none
  | .index t x i => bnd (o x) fun v => bnd (o i) fun j => match v, j with
      | .lit (.string b), .lit (.int _ n) => ck (tstr E.P t) (kpo (.lit (.int .u8 (sAt b n))) [oIn n (sLen b)])
      | _, _ => none
  | .slice t x lo hi none => bnd (o x) fun v => bnd (kOpt o lo) fun l => bnd (kOpt o hi) fun u => kSlice E.P h t v l u
  | .slice t x lo (some hi) (some mx) => bnd (o x) fun v => bnd (kOpt o lo) fun l => bnd (o hi) fun u => bnd (o mx) fun m => kSliceM E.P h t v l u m
  | .extract x i => bnd (o x) fun v => match v with
      | .tup vs => bnd (vs[i]?) kp
      | _ => none
  | .makeFunc (.func f) first caps => ck first.isEmpty (bnd (kOpds o caps.toList) fun vs => kp (.fn f vs))
  | .call c => match c.callee with
    | .builtin .len => bnd (kOpds o c.args.toList) fun vs => (match vs, c.argTypes.toList with
      | [x], [t] => bnd (kLen E.P h t x) fun n => kp (.lit (.int .i64 n))
      | _, _ => none)
    | .builtin .append => bnd (kOpds o c.args.toList) fun vs => (match vs, c.argTypes.toList with
      | [x, y], [t, u] => ck (tnint E.P u) (kAppend E.P h k t x y)
      | _, _ => none)
    | .builtin .copy => bnd (kOpds o c.args.toList) fun vs => (match vs, c.argTypes.toList with
      | [x, y], [t, _] => kCopy E.P h t x y
      | _, _ => none)
    | .builtin .clear => bnd (kOpds o c.args.toList) fun vs => (match vs, c.argTypes.toList with
      | [x], [t] => kClear E.P h t x
      | _, _ => none)
    | .builtin .max => bnd (kOpds o c.args.toList) fun vs => (match vs with
      | [.lit (.int i a), .lit (.int _ b)] => kp (.lit (.int i (sel (iLt a b) b a)))
      | _ => none)
    | .builtin .min => bnd (kOpds o c.args.toList) fun vs => (match vs with
      | [.lit (.int i a), .lit (.int _ b)] => kp (.lit (.int i (sel (iLt b a) b a)))
      | _ => none)
    | _ => none
  | _ => none

/-! ## What is said of calls and loops -/
inductive Alt (X : Type) : Type → Type 1
  | one {α : Type} (f : α → X) : Alt X α
  | two {α β : Type} (x : Alt X α) (y : Alt X β) : Alt X (α ⊕ β)
def Alt.run {X R : Type} : {α : Type} → Alt X α → α → (X → Option R) → Option R
  | _, .one f, y, κ => κ (f y)
  | _, .two a b, y, κ => sumS y (fun u => a.run u κ) (fun u => b.run u κ)
/-- What comes back (o), told by words (alt); d: any. -/
structure Sp (X : Type) where
  α : Type
  o : Option α
  d : α
  alt : Alt X α
abbrev GT := Nat → List V → List Blk → Option (Sp Ret)
abbrev LT := Nat → Nat → St → Option (Sp (Exit × St))
def callS {R : Type} (G : GT) (f : Nat) (as0 : List V) (bs : List Blk) (κ : Ret → Option R) : Option R := match G f as0 bs with | some sp => bndS sp.o (fun y => sp.alt.run y κ) | none => none
def loopS {R : Type} (L : LT) (f i : Nat) (s : St) (κ : Exit × St → Option R) : Option R := match L f i s with | some sp => bndS sp.o (fun y => sp.alt.run y κ) | none => none
/-- A call under a condition. -/
def callG {R : Type} (G : GT) (z : Bool) (f : Nat) (as0 : List V) (bs : List Blk) (κ : Ret → Option R) : Option R := match G f as0 bs with | some sp => (match sp with | ⟨_, o, d, .one w⟩ => sel (bOr (okS o) (bNot z)) (κ (w (valS o d))) none | _ => none) | none => none

/-! ## Regions -/
def grds {R : Type} : List Bool → Option R → Option R
  | [], x => x
  | b :: r, x => sel b (grds r x) none
def grdz {R : Type} (z : Bool) : List Bool → Option R → Option R
  | [], x => x
  | b :: r, x => sel (bOr b (bNot z)) (grdz z r x) none
def grdm {R : Type} (m : Option Bool) (ob : List Bool) (x : Option R) : Option R := match m with
  | none => grds ob x
  | some z => grdz z ob x
def andM (m : Option Bool) (g : Bool) : Option Bool := match m with
  | none => some g
  | some z => some (bAnd z g)
/-- Whether the operation with this guard is carried out. -/
def gval (tm : Nat → Option V) (ops : List Oper) (j : Nat) (w : Bool) : Option Bool := match gdst ops j with
  | some t => (match tm t with
    | some (.lit (.bool b)) => some (match w with | true => b | false => bNot b)
    | some (.gd _ _ g (.lit (.bool b))) => some (bAnd g (match w with | true => b | false => bNot b))
    | _ => none)
  | none => none
def beqB : Bool → Bool → Bool
  | true, true => true
  | false, false => true
  | _, _ => false
def notB : Bool → Bool
  | true => false
  | false => true
def ungd (cur : Option (Nat × Bool)) : V → Option V
  | .gd j w _ v => (match cur with
    | some (j', w') => ck (Nat.beq j j') (ck (beqB w w') (some v))
    | none => none)
  | .jnk => none
  | .kb b => some (.lit (.bool b))
  | v => some v
def kO (tm : Nat → Option V) (cur : Option (Nat × Bool)) (x : Operand) : Option V := match x with
  | .tmp t => bnd (tm t) (ungd cur)
  | x => opd tm x
/-- An operand of `pick`: it may be there only if the condition is so. -/
def kPickO (ops : List Oper) (tm : Nat → Option V) (cur : Option (Nat × Bool)) (c : Operand) (w : Bool) (x : Operand) : Option V := match x, c with
  | .tmp t, .tmp tc => (match tm t with
    | some (.gd j w' _ v) => (match gdst ops j with
      | some d => (match Nat.beq d tc, beqB w w' with | true, true => some v | _, _ => kO tm cur x)
      | none => none)
    | _ => kO tm cur x)
  | _, _ => kO tm cur x
/-- Which operand `pick` takes, if that is known. -/
def kPickB (tm : Nat → Option V) (c : Operand) : Option Bool := match c with
  | .tmp t => (match tm t with | some (.kb b) => some b | _ => none)
  | _ => none
def knownB (x : Operand) (v : V) : V := match x with
  | .const (.bool b) => .kb b
  | _ => v
def kRd (E : Env) (h : Nat → Option Blk) (o : Operand → Option V) : Op → List Nat
  | .load _ x => match o x with | some v => v.ids | none => []
  | .store _ x _ => match o x with | some v => v.ids | none => []
  | .convert _ _ x => match o x with | some v => v.ids | none => []
  | .slice _ x (some _) (some _) none => match o x with | some v => v.ids | none => []
  | .call c => match c.callee with
    | .value f => match o f with
      | some (.fn g caps) => match kOpds o c.args.toList with
        | some vs => cond (E.mv g) (reach h 100 (V.ids.L (vs ++ caps)) []) (V.ids.L (vs ++ caps))
        | none => []
      | _ => []
    | .builtin .append => match kOpds o c.args.toList with
      | some vs => V.ids.L vs
      | none => []
    | .builtin .copy => match kOpds o c.args.toList with
      | some vs => V.ids.L vs
      | none => []
    | .builtin .clear => match kOpds o c.args.toList with
      | some vs => V.ids.L vs
      | none => []
    | _ => []
  | _ => []
abbrev CallH (R : Type) := Nat → List V → List Blk → (Ret → Option R) → Option R
def kCall {R : Type} (E : Env) (cs : CallH R) (h : Nat → Option Blk) (k g : Nat) (args : List V) (κ : KD → Option R) : Option R := match E.mv g with
  | true => (match nodup (reach h 100 (V.ids.L args) []) with
    | true => bndF 1400000001 (V.ren.L (fun b => idx b (reach h 100 (V.ids.L args) []) 0) args) fun as0 => bndF 1400000001 (renBs h (fun b => idx b (reach h 100 (V.ids.L args) []) 0) (reach h 100 (V.ids.L args) [])) fun hs => bndF 1400000001 (somes hs) fun bs =>
      cs g as0 bs fun r =>
      bndF 1400000001 (r.1.ren (back (reach h 100 (V.ids.L args) []) k)) fun v => bndF 1400000001 (zipUp (back (reach h 100 (V.ids.L args) []) k) (reach h 100 (V.ids.L args) []) r.2.1) fun up => bndF 1400000001 (renNews (back (reach h 100 (V.ids.L args) []) k) r.2.2) fun nb =>
      ckF 1400000002 (Nat.ble nb.length maxNew) (κ ⟨some v, nb, up, []⟩)
    | false => none)
  | false => bndF 1400000001 (kCons h args) fun as0 => cs g as0 [] fun r =>
    bndF 1400000001 (r.1.ren (back [] k)) fun v => bndF 1400000001 (renNews (back [] k) r.2.2) fun nb =>
    ckF 1400000002 (Nat.ble nb.length maxNew) (κ ⟨some v, nb, (match r.1.noc && nocBs r.2.2 with | true => [] | false => dels (V.ids.L args)), []⟩)
/-- One operation. m: a condition under which all this is done; cur: the operation's own guard. -/
def kEx {R : Type} (E : Env) (G : GT) (n : Nat) (ops : List Oper) (m : Option Bool) (cur : Option (Nat × Bool)) (s : St) (k : Nat) (op : Op) (κ : KD → Option R) : Option R := match op with
  | .pick c a b => (match kPickB s.tm c with
    | some z => (match z with
      | true => bndF n (kPickO ops s.tm cur c true a) fun x => κ ⟨some (knownB a x), [], [], []⟩
      | false => bndF n (kPickO ops s.tm cur c false b) fun x => κ ⟨some (knownB b x), [], [], []⟩)
    | none => bndF n (kO s.tm cur c) fun zc => (match zc with
      | .lit (.bool z) => bndF n (kPickO ops s.tm cur c true a) fun x => bndF n (kPickO ops s.tm cur c false b) fun y => bndF n (mrg z x y) fun v => κ ⟨some v, [], [], []⟩
      | _ => none))
  | .call c => (match c.callee with
    | .value f => bndF n (kO s.tm cur f) fun fv => (match fv with
      | .fn g caps => bndF n (kOpds (kO s.tm cur) c.args.toList) fun vs => (match m with
        | none => kCall E (callS G) s.h k g (vs ++ caps) κ
        | some z => kCall E (callG G z) s.h k g (vs ++ caps) κ)
      | _ => none)
    | _ => bndF n (kOp E (kO s.tm cur) s.h k op) fun d => grdm m d.ob (κ d))
  | op => bndF n (kOp E (kO s.tm cur) s.h k op) fun d => grdm m d.ob (κ d)
/-- An operation that makes blocks. -/
def loud (E : Env) (tm : Nat → Option V) (cur : Option (Nat × Bool)) : Op → Bool
  | .alloc _ | .box .. | .buildSlice .. | .makeSlice .. | .store .. => true
  | .convert s t _ => match tstr E.P s, tstr E.P t with | true, true => false | true, false => true | _, _ => false
  | .call c => match c.callee with
    | .value (.func f) => (match E.mv f with | true => true | false => (match E.On f with | [] => false | _ => true))
    | .value f => (match kO tm cur f with
      | some (.fn g _) => (match E.mv g with | true => true | false => (match E.On g with | [] => false | _ => true))
      | _ => true)
    | .builtin .append => true
    | .builtin .copy => true
    | .builtin .clear => true
    | _ => false
  | _ => false
/-- A guard's temporary that holds a truth value. -/
def gLit (tm : Nat → Option V) (ops : List Oper) (j : Nat) : Option Bool := match gdst ops j with
  | some t => (match tm t with | some (.lit (.bool b)) => some b | _ => none)
  | none => none
/-- What is known of a guard's temporary. -/
def kbOf (tm : Nat → Option V) (ops : List Oper) (j : Nat) : Option Bool := match gdst ops j with
  | some t => (match tm t with | some (.kb b) => some b | _ => none)
  | none => none
def ltOB (d : Option Nat) (n : Nat) : Bool := match d with | some t => Nat.blt t n | none => true
/-- Under a condition: a value, and nothing else. -/
def still (d : KD) : Bool := match d.nb, d.up with | [], [] => true | _, _ => false
def kOps {R : Type} (E : Env) (G : GT) (id : Nat) (m : Option Bool) (ops : List Oper) : List Oper → Nat → Nat → Log → St → (Log → St → Option R) → Option R
  | [], _, k, lg, s, κ => κ lg { s with nx := k }
  | o :: r, i, k, lg, s, κ => ckF (id * 1000 + i) (ltOB o.dst s.nt) (match o.guard with
    | none => kEx E G (id * 1000 + i) ops m none s k o.op fun d => ckF (id * 1000 + i) (match m with | none => true | some _ => still d)
        (kOps E G id m ops r (i + 1) (k + maxNew) (set lg i (some (kRd E s.h (kO s.tm none) o.op, keysU d.up ++ rngL k d.nb.length))) { s with tm := putT s.tm o.dst d.v, h := putN (putU s.h d.up) k d.nb } κ)
    | some (j, w) => ckF (id * 1000 + i) (Nat.blt j i) (match kbOf s.tm ops j with
      | some b => (match beqB b w with
        | true => kEx E G (id * 1000 + i) ops m (some (j, w)) s k o.op fun d => ckF (id * 1000 + i) (match m with | none => true | some _ => still d)
          (kOps E G id m ops r (i + 1) (k + maxNew) (set lg i (some (kRd E s.h (kO s.tm (some (j, w))) o.op, keysU d.up ++ rngL k d.nb.length))) { s with tm := putT s.tm o.dst d.v, h := putN (putU s.h d.up) k d.nb } κ)
        | false => kOps E G id m ops r (i + 1) (k + maxNew) (set lg i (some ([], []))) { s with tm := putT s.tm o.dst (some .jnk) } κ)
      | none => (match (match m with | none => loud E s.tm (some (j, w)) o.op | some _ => false) with
        | true => bndF (id * 1000 + i) (gLit s.tm ops j) fun b => sel (match w with | true => b | false => bNot b)
          (kEx E G (id * 1000 + i) ops none (some (j, w)) s k o.op fun d =>
            kOps E G id m ops r (i + 1) (k + maxNew) (set lg i (some (kRd E s.h (kO s.tm (some (j, w))) o.op, keysU d.up ++ rngL k d.nb.length))) { s with tm := putT (putT s.tm (gdst ops j) (some (.kb w))) o.dst d.v, h := putN (putU s.h d.up) k d.nb } κ)
          (kOps E G id m ops r (i + 1) (k + maxNew) (set lg i (some ([], []))) { s with tm := putT (putT s.tm (gdst ops j) (some (.kb (notB w)))) o.dst (some .jnk) } κ)
        | false => bndF (id * 1000 + i) (gval s.tm ops j w) fun g => kEx E G (id * 1000 + i) ops (andM m g) (some (j, w)) s k o.op fun d => ckF (id * 1000 + i) (still d) (bndF (id * 1000 + i) d.v fun v =>
          kOps E G id m ops r (i + 1) (k + maxNew) (set lg i (some (kRd E s.h (kO s.tm (some (j, w))) o.op, []))) { s with tm := putT s.tm o.dst (some (.gd j w g v)) } κ))))
/-- Behind a region nobody looks at what was done under its conditions. -/
def endR : List Oper → (Nat → Option V) → Nat → Option V
  | [], tm => tm
  | o :: r, tm => match o.guard with
    | none => endR r tm
    | some _ => match o.dst with
      | some t => (match tm t with
        | some _ => endR r (set tm t (some .jnk))
        | none => endR r tm)
      | none => endR r tm

/-! ## Code -/
def tmsS (tm : Nat → Option V) : List Nat → Option (List V)
  | [] => some []
  | t :: r => bnd (tm t) fun v => bnd (tmsS tm r) fun l => some (v :: l)
/-- The temporaries that are given values. -/
def dsts : List Oper → List Nat
  | [] => []
  | o :: r => match o.dst with | some t => t :: dsts r | none => dsts r
def asg : Code → List Nat
  | .region _ ops _ => dsts ops.toList
  | .seq a b => asg a ++ asg b
  | .cond _ a b => asg a ++ asg b
  | _ => []
def calm : Code → Bool
  | .skip => true
  | .region .. => true
  | .seq a b => calm a && calm b
  | .cond _ a b => calm a && calm b
  | _ => false
def mrgJ (z : Bool) (a b : V) : Option V := match a with
  | .jnk => some .jnk
  | .gd .. => some .jnk
  | a => match b with
    | .jnk => some .jnk
    | .gd .. => some .jnk
    | b => mrg z a b
def kMrg (z : Bool) (q : List Nat) (tA tB : Nat → Option V) : List Nat → Option (List (Nat × V))
  | [] => some []
  | t :: r => match tA t, tB t with
    | some a, some b => (match mem t q with
      | true => bnd (mrgJ z a b) fun v => bnd (kMrg z q tA tB r) fun l => some ((t, v) :: l)
      | false => bnd (kMrg z q tA tB r) fun l => some ((t, a) :: l))
    | _, _ => none
def kOwnN (P : Program) : List (Nat × Nat) → St → Option St
  | [], s => some s
  | (t, y) :: r, s => match y with
    | 0 => kOwnN P r s
    | y + 1 => match s.tm t with
      | some v => (match v with
        | .lit (.slice none 0 0) => bnd (telem P (y + 1)) fun e => bnd (tyOf P 9 e) fun ty => ck (Nat.beq ty.size (tsz P e)) (kOwnN P r { s with tm := set s.tm t (some (.own s.nx)), h := set s.h s.nx (some (mkArr ty [])), nx := s.nx + 1 })
        | .own b => (match Nat.blt b s.ni with
          | true => bnd (mvB s b) fun s1 => kOwnN P r { s1 with tm := set s1.tm t (some (.own s.nx)) }
          | false => kOwnN P r s)
        | .sub b lo hi => (match Nat.blt b s.ni with
          | true => bnd (mvB s b) fun s1 => kOwnN P r { s1 with tm := set s1.tm t (some (.sub s.nx lo hi)) }
          | false => kOwnN P r s)
        | .arr .. => none
        | .jnk => none
        | .gd .. => none
        | _ => kOwnN P r s)
      | none => none
def kNrmT (l : List Nat) (s : St) : Option St := bnd (tmsS s.tm l) fun vs =>
  ck (nodup (reach s.h 100 (idsI s.h (rngL 0 s.ni) ++ V.ids.L vs) (rngL 0 s.ni))) (
  bnd (renT (fun b => idx b (reach s.h 100 (idsI s.h (rngL 0 s.ni) ++ V.ids.L vs) (rngL 0 s.ni)) 0) s.tm l) fun ts => bnd (renBs s.h (fun b => idx b (reach s.h 100 (idsI s.h (rngL 0 s.ni) ++ V.ids.L vs) (rngL 0 s.ni)) 0) (reach s.h 100 (idsI s.h (rngL 0 s.ni) ++ V.ids.L vs) (rngL 0 s.ni))) fun hs =>
  some { tm := ofT ts, h := ofL hs, nx := hs.length, nt := s.nt, ni := s.ni })
def kNrm (P : Program) (l : List (Nat × Nat)) (s : St) : Option St := bnd (kOwnN P l s) (kNrmT (fsts l))
def kC {R : Type} (E : Env) (G : GT) (L : LT) (f : Nat) : Code → Nat → Option Bool → St → (Exit → St → Option R) → Option R
  | .skip, _, _, s, κ => κ .normal s
  | .region id ops draw, _, m, s, κ => kOps E G id m ops.toList ops.toList 0 s.nx (fun _ => none) s fun lg s' => (match draw with
      | true => ckF (id * 1000 + 999) (chkLog lg (E.un f id)) (κ .normal { s' with tm := endR ops.toList s'.tm })
      | false => κ .normal { s' with tm := endR ops.toList s'.tm })
  | .seq a b, i, m, s, κ => kC E G L f a i m s fun e s' => (match e with
      | .normal => kC E G L f b i m s' κ
      | e => κ e s')
  | .cond c a b, i, m, s, κ => bndF 1000000001 (kO s.tm none c) fun v => (match v with
      | .lit (.bool z) => (match jof E f (.seq a b) with
        | some q => ckF 1000000002 (calm a && calm b) (kC E G L f a i (andM m z) s fun ea sA => (match ea with
          | .normal => kC E G L f b i (andM m (bNot z)) s fun eb sB => (match eb with
            | .normal => ckF 1000000003 (Nat.ble sA.nx (s.nx + q.2) && Nat.ble sB.nx (s.nx + q.2)) (bndF 1000000004 (kMrg z (asg a ++ asg b) sA.tm sB.tm q.1) fun T => κ .normal { s with tm := ofT T, nx := s.nx + q.2 })
            | _ => none)
          | _ => none))
        | none => (match m with
          | none => sel z (kC E G L f a i none s κ) (kC E G L f b i none s κ)
          | some _ => none))
      | _ => none)
  | .block id a, _, m, s, κ => kC E G L f a id m s fun e s' => (match e with
      | .exit j => (match Nat.beq j id with | true => κ .normal s' | false => κ (.exit j) s')
      | e => κ e s')
  | .loop _, i, m, s, κ => (match m with
      | none => bndF (1100000000 + i) (kNrm E.P (E.An f i) s) fun s1 => loopS L f i s1 fun r => κ r.1 r.2
      | some _ => none)
  | .exit id, _, _, s, κ => κ (.exit id) s
  | .ret, _, _, s, κ => κ .ret s
  | _, _, _, _, _ => none
/-- The loops of a function: where, and what. -/
def loopsOf : Code → Nat → List (Nat × Code)
  | .seq a b, i => loopsOf a i ++ loopsOf b i
  | .cond _ a b, i => loopsOf a i ++ loopsOf b i
  | .block id a, _ => loopsOf a id
  | .loop a, i => (i, a) :: loopsOf a i
  | _, _ => []
def lpOf (P : Program) (f k : Nat) : Nat × Code := match P.funcs[f]? with
  | some fn => (match fn.body with
    | some c => (match (loopsOf c 1000000)[k]? with | some p => p | none => (0, .skip))
    | none => (0, .skip))
  | none => (0, .skip)
/-- Once through a loop, and what the loop carries on. -/
def kNrmX (E : Env) (f i : Nat) (e : Exit) (s : St) : Option St := match e with
  | .normal => kNrm E.P (E.An f i) s
  | .exit _ => kNrm E.P (E.An f (i + 10000000)) s
  | .ret => kNrm E.P (E.An f 20000000) s
  | _ => none
def kRound {R : Type} (E : Env) (G : GT) (L : LT) (f i : Nat) (a : Code) (s : St) (κ : Exit → St → Option R) : Option R :=
  kC E G L f a i none s fun e s' => bndF (1200000000 + i) (kNrmX E f i e s') fun s'' => κ e s''

/-! ## Functions -/
def kResl (P : Program) (s : St) : List ResultVar → Option (List V)
  | [] => some []
  | .tmp t :: r => bnd (kO s.tm none (.tmp t)) fun v => bnd (kResl P s r) fun vs => some (v :: vs)
  | .cell a t :: r => bnd (kO s.tm none (.tmp a)) fun p => bnd (kLoad P s.h t p) fun d => bnd d.v fun v => bnd (kResl P s r) fun vs => some (v :: vs)
def trK (s : St) : V → Option (V × St)
  | .own b => (match blkT s.h b with
    | some ⟨t, l⟩ => some (.own s.nx, { s with h := set (set s.h b none) s.nx (some (mkArr t l)), nx := s.nx + 1 })
    | none => none)
  | .sub b lo hi => (match lo with
    | .ofNat 0 => (match blkT s.h b with
      | some ⟨t, l⟩ => some (.own s.nx, { s with h := set (set s.h b none) s.nx (some (mkArr t (lCut l 0 hi))), nx := s.nx + 1 })
      | none => none)
    | _ => none)
  | _ => none
def kOwnL (P : Program) : List (Option Nat) → List V → St → Option (List V × St)
  | [], cs, s => some (cs, s)
  | _ :: _, [], s => some ([], s)
  | some e :: sl, v :: cs, s => (match Nat.ble 1000000 e with
    | true => (match v with
      | .lit (.slice none 0 0) => bnd (tyOf P 9 (e % 1000000)) fun ty => ck (Nat.beq ty.size (tsz P (e % 1000000))) (bnd (kOwnL P sl cs { s with h := set s.h s.nx (some (mkArr ty [])), nx := s.nx + 1 }) fun q => some (.own s.nx :: q.1, q.2))
      | v => bnd (trK s v) fun p => bnd (kOwnL P sl cs p.2) fun q => some (p.1 :: q.1, q.2))
    | false => match v with
      | .lit (.slice none 0 0) => bnd (tyOf P 9 (e % 1000000)) fun ty => ck (Nat.beq ty.size (tsz P (e % 1000000))) (bnd (kOwnL P sl cs { s with h := set s.h s.nx (some (mkArr ty [])), nx := s.nx + 1 }) fun q => some (.own s.nx :: q.1, q.2))
      | .own b => (match Nat.blt b s.ni with
        | true => bnd (mvB s b) fun s1 => bnd (kOwnL P sl cs s1) fun q => some (.own s.nx :: q.1, q.2)
        | false => bnd (kOwnL P sl cs s) fun q => some (.own b :: q.1, q.2))
      | .sub b lo hi => (match Nat.blt b s.ni with
        | true => bnd (mvB s b) fun s1 => bnd (kOwnL P sl cs s1) fun q => some (.sub s.nx lo hi :: q.1, q.2)
        | false => bnd (kOwnL P sl cs s) fun q => some (.sub b lo hi :: q.1, q.2))
      | .arr .. => none
      | v => bnd (kOwnL P sl cs s) fun q => some (v :: q.1, q.2))
  | none :: sl, v :: cs, s => bnd (kOwnL P sl cs s) fun q => some (v :: q.1, q.2)
def kOwnVs (P : Program) : List (List (Option Nat)) → List V → St → Option (List V × St)
  | [], vs, s => some (vs, s)
  | _ :: _, [], s => some ([], s)
  | sl :: r, v :: vs, s => (match v with
      | .agg cs => bnd (kOwnL P sl cs s) fun q => bnd (kOwnVs P r vs q.2) fun p => some (.agg q.1 :: p.1, p.2)
      | v => bnd (kOwnL P sl [v] s) fun q => bnd (kOwnVs P r vs q.2) fun p => some (q.1 ++ p.1, p.2))
def kFin (s : St) (v : V) : Option Ret :=
  ck (nodup (reach s.h 100 (idsI s.h (rngL 0 s.ni) ++ v.ids) (rngL 0 s.ni))) (
  bnd (v.ren fun b => idx b (reach s.h 100 (idsI s.h (rngL 0 s.ni) ++ v.ids) (rngL 0 s.ni)) 0) fun w => bnd (renBs s.h (fun b => idx b (reach s.h 100 (idsI s.h (rngL 0 s.ni) ++ v.ids) (rngL 0 s.ni)) 0) (reach s.h 100 (idsI s.h (rngL 0 s.ni) ++ v.ids) (rngL 0 s.ni))) fun hs =>
  bnd (somes (hs.drop s.ni)) fun nb => some (w, hs.take s.ni, nb))
def kB {R : Type} (E : Env) (G : GT) (L : LT) (f : Nat) (bs : List Blk) (κ : Ret → Option R) (args : List V) : Option R := match E.P.funcs[f]? with
  | some fn => (match fn.body with
    | some c => kC E G L f c 1000000 none ⟨ofT (pars 0 args), ofL (bs.map some), bs.length, args.length + (fn.ntmps - args.length), bs.length⟩ fun e s => (match e with
      | .normal => bndF 1300000001 (kResl E.P s fn.results.toList) fun vs => bndF 1300000002 (kOwnVs E.P (E.On f) vs s) fun q => bndF 1300000003 (kFin q.2 (pack q.1)) κ
      | .ret => bndF 1300000001 (kResl E.P s fn.results.toList) fun vs => bndF 1300000002 (kOwnVs E.P (E.On f) vs s) fun q => bndF 1300000003 (kFin q.2 (pack q.1)) κ
      | _ => none)
    | none => none)
  | none => none
/-- A slice of which it is not known whether it is nil. -/
def kNl {R : Type} (run : List V → Option R) (args : List V) : Option R := match args with
  | [.arr t l] => sel (iLt 0 (lLen l)) (run [.arr t l]) (bothS (run [.lit (.slice none 0 0)]) (run [.emp]))
  | _ => none
def kF {R : Type} (E : Env) (G : GT) (L : LT) (f : Nat) (args : List V) (bs : List Blk) (κ : Ret → Option R) : Option R := match E.nl f with
  | true => kNl (kB E G L f bs κ) args
  | false => kB E G L f bs κ args
end
end Go.Ev
end

section
set_option linter.unusedVariables false
set_option linter.unusedSimpArgs false
set_option linter.unnecessarySimpa false
namespace Go.Ev
open Go
noncomputable section

/-! ## Codes: how plain data stands for values and blocks -/
@[reducible] def PT (ua ub : Bool) (A B : Type) : Type := match ua with
  | true => B
  | false => match ub with
    | true => A
    | false => A × B
def PT.fst : (ua ub : Bool) → {A B : Type} → A → PT ua ub A B → A
  | true, _, _, _, d, _ => d
  | false, true, _, _, _, x => x
  | false, false, _, _, _, x => x.1
def PT.snd : (ua ub : Bool) → {A B : Type} → B → PT ua ub A B → B
  | true, _, _, _, _, x => x
  | false, true, _, _, d, _ => d
  | false, false, _, _, _, x => x.2
def PT.mk : (ua ub : Bool) → {A B : Type} → A → B → PT ua ub A B
  | true, _, _, _, _, y => y
  | false, true, _, _, x, _ => x
  | false, false, _, _, x, y => (x, y)
/-- Plain data (one cell or several); all of block b; a part of it; block b once more; a variable b; an address in it; an address in block b; that, and all of block b; a word; a function; nothing; one behind the other; a struct; several. -/
inductive Sh where
  | dat (t : Ty)
  | own (b : Nat) (t : Ty)
  | sub (b : Nat) (t : Ty)
  | alo (b : Nat)
  | box (b : Nat) (s : Sh)
  | ptr (b sz c : Nat)
  | pto (b c : Nat)
  | ptw (b : Nat) (t : Ty) (c : Nat)
  | sbo (b : Nat)
  | lit (v : Value)
  | fn (f : Nat) (s : Sh)
  | non
  | seq (a b : Sh)
  | agg (s : Sh)
  | tup (s : Sh)
def Sh.u : Sh → Bool
  | .alo _ => true
  | .ptr .. => true
  | .lit _ => true
  | .non => true
  | .seq a b => match a.u with | true => b.u | false => false
  | .box _ s => s.u
  | .fn _ s => s.u
  | .agg s => s.u
  | .tup s => s.u
  | _ => false
@[reducible] def Sh.T : Sh → Type
  | .dat t => t.T
  | .own _ t => List t.T
  | .sub _ t => List t.T × Int × Int
  | .alo _ => Unit
  | .box _ s => s.T
  | .ptr .. => Unit
  | .pto .. => Int
  | .ptw _ t _ => List t.T × Int
  | .sbo _ => Int × Int
  | .lit _ => Unit
  | .fn _ s => s.T
  | .non => Unit
  | .seq a b => PT a.u b.u a.T b.T
  | .agg s => s.T
  | .tup s => s.T
def Sh.dflt : (s : Sh) → s.T
  | .dat t => t.dflt
  | .own _ _ => []
  | .sub _ _ => ([], (0 : Int), (0 : Int))
  | .alo _ => ()
  | .box _ s => s.dflt
  | .ptr .. => ()
  | .pto .. => (0 : Int)
  | .ptw _ _ _ => ([], (0 : Int))
  | .sbo _ => ((0 : Int), (0 : Int))
  | .lit _ => ()
  | .fn _ s => s.dflt
  | .non => ()
  | .seq a b => PT.mk a.u b.u a.dflt b.dflt
  | .agg s => s.dflt
  | .tup s => s.dflt
def Sh.len : Sh → Nat
  | .dat t => t.size
  | .non => 0
  | .seq a b => a.len + b.len
  | _ => 1
def Sh.enc : (s : Sh) → s.T → List V
  | .dat t, x => Go.Ev.enc t x
  | .own b _, _ => [.own b]
  | .sub b _, x => [.sub b x.2.1 x.2.2]
  | .alo b, _ => [.own b]
  | .box b s, _ => [.ptr b s.len 0 0]
  | .ptr b sz c, _ => [.ptr b sz 0 c]
  | .pto b c, n => [.pto b n c]
  | .ptw b _ c, x => [.pto b x.2 c]
  | .sbo b, x => [.sub b x.1 x.2]
  | .lit v, _ => [.lit v]
  | .fn f s, x => [.fn f (s.enc x)]
  | .non, _ => []
  | .seq a b, x => a.enc (PT.fst a.u b.u a.dflt x) ++ b.enc (PT.snd a.u b.u b.dflt x)
  | .agg s, x => [.agg (s.enc x)]
  | .tup s, x => [.tup (s.enc x)]
def Sh.blks : (s : Sh) → s.T → List (Nat × Blk)
  | .own b t, l => [(b, mkArr t l)]
  | .sub b t, x => [(b, mkArr t x.1)]
  | .ptw b t _, x => [(b, mkArr t x.1)]
  | .box b s, x => (b, ⟨true, false, s.len, [s.enc x]⟩) :: s.blks x
  | .fn _ s, x => s.blks x
  | .seq a b, x => a.blks (PT.fst a.u b.u a.dflt x) ++ b.blks (PT.snd a.u b.u b.dflt x)
  | .agg s, x => s.blks x
  | .tup s, x => s.blks x
  | _, _ => []
def bytesB : List UInt8 → List UInt8 → Bool
  | [], [] => true
  | a :: r, b :: q => match Nat.beq a.toNat b.toNat with | true => bytesB r q | false => false
  | _, _ => false
def litB : Value → Value → Bool
  | .slice none 0 0, .slice none 0 0 => true
  | .pointer none, .pointer none => true
  | .string a, .string b => bytesB a.data.toList b.data.toList
  | .bool a, .bool b => beqB a b
  | _, _ => false
def decB (h : Nat → Option Blk) (b : Nat) (t : Ty) : Option (List t.T) := match blkT h b with
  | some ⟨t', l⟩ => Ty.cast (.sl t') (.sl t) l
  | none => none
def Sh.dec (h : Nat → Option Blk) : (s : Sh) → List V → Option (s.T × List V)
  | .dat t, cs => Go.Ev.dec t cs
  | .own b t, cs => match cs with
    | .own b' :: r => ck (Nat.beq b b') (bnd (decB h b t) fun l => some (l, r))
    | _ => none
  | .sub b t, cs => match cs with
    | .own b' :: r => ck (Nat.beq b b') (bnd (decB h b t) fun l => some ((l, (0 : Int), lLen l), r))
    | .sub b' lo hi :: r => ck (Nat.beq b b') (bnd (decB h b t) fun l => some ((l, lo, hi), r))
    | _ => none
  | .alo b, cs => match cs with
    | .own b' :: r => ck (Nat.beq b b') (some ((), r))
    | _ => none
  | .box b s, cs => match cs with
    | .ptr b' sz i c :: r => ck (Nat.beq b b' && (Nat.beq sz s.len && (Nat.beq i 0 && Nat.beq c 0))) (match h b with
      | some ⟨true, _, sz', [ds]⟩ => ck (Nat.beq sz' s.len) (match s.dec h ds with
        | some (x, []) => some (x, r)
        | _ => none)
      | _ => none)
    | _ => none
  | .ptr b sz c, cs => match cs with
    | .ptr b' sz' i c' :: r => ck (Nat.beq b b' && (Nat.beq sz sz' && (Nat.beq i 0 && Nat.beq c c'))) (some ((), r))
    | _ => none
  | .pto b c, cs => match cs with
    | .pto b' n c' :: r => ck (Nat.beq b b' && Nat.beq c c') (some (n, r))
    | _ => none
  | .ptw b t c, cs => match cs with
    | .pto b' n c' :: r => ck (Nat.beq b b' && Nat.beq c c') (bnd (decB h b t) fun l => some ((l, n), r))
    | _ => none
  | .sbo b, cs => match cs with
    | .sub b' lo hi :: r => ck (Nat.beq b b') (some ((lo, hi), r))
    | _ => none
  | .lit v, cs => match cs with
    | .lit v' :: r => ck (litB v v') (some ((), r))
    | _ => none
  | .fn f s, cs => match cs with
    | .fn f' ds :: r => ck (Nat.beq f f') (match s.dec h ds with
      | some (x, []) => some (x, r)
      | _ => none)
    | _ => none
  | .non, cs => some ((), cs)
  | .seq a b, cs => match a.dec h cs with
    | some (x, r) => (match b.dec h r with
      | some (y, r') => some (PT.mk a.u b.u x y, r')
      | none => none)
    | none => none
  | .agg s, cs => match cs with
    | .agg ds :: r => (match s.dec h ds with
      | some (x, []) => some (x, r)
      | _ => none)
    | _ => none
  | .tup s, cs => match cs with
    | .tup ds :: r => (match s.dec h ds with
      | some (x, []) => some (x, r)
      | _ => none)
    | _ => none

/-! ## Several codes -/
def hof : List (Nat × Blk) → Nat → Option Blk
  | [], _ => none
  | (a, x) :: r, b => match Nat.beq a b with | true => some x | false => hof r b
def upsOf (h : Nat → Option Blk) : List Nat → List (Option Blk)
  | [] => []
  | b :: r => h b :: upsOf h r
def newsOf (h : Nat → Option Blk) : List Nat → List Blk
  | [] => []
  | b :: r => (match h b with | some x => x | none => ⟨false, true, 0, []⟩) :: newsOf h r
/-- The blocks whose contents a code tells. -/
def Sh.nums : Sh → List Nat
  | .own b _ => [b]
  | .sub b _ => [b]
  | .ptw b _ _ => [b]
  | .box b s => b :: s.nums
  | .fn _ s => s.nums
  | .seq a b => a.nums ++ b.nums
  | .agg s => s.nums
  | .tup s => s.nums
  | _ => []
/-- These blocks are told, or (m) none of variables is left out. -/
def covB (m : Bool) (h : Nat → Option Blk) (ns : List Nat) : List Nat → Bool
  | [] => true
  | b :: r => match mem b ns with
    | true => covB m h ns r
    | false => match m with
      | false => false
      | true => match h b with
        | some ⟨true, _, _, _⟩ => false
        | _ => covB m h ns r
/-- A result: blocks that came in (root), the value (v); m blocks came in, n are new; those of dd are not there any more. -/
structure RC where
  root : Sh
  v : Sh
  m : Nat
  n : Nat
def RC.T (c : RC) : Type := PT c.root.u c.v.u c.root.T c.v.T
def RC.hp (c : RC) (x : c.T) : Nat → Option Blk := hof (c.root.blks (PT.fst c.root.u c.v.u c.root.dflt x) ++ c.v.blks (PT.snd c.root.u c.v.u c.v.dflt x))
def oneV : List V → V
  | [v] => v
  | _ => .jnk
def RC.ret (c : RC) (x : c.T) : Ret := (oneV (c.v.enc (PT.snd c.root.u c.v.u c.v.dflt x)), upsOf (c.hp x) (rngL 0 c.m), newsOf (c.hp x) (rngL c.m c.n))
/-- The addresses of the blocks that came in and are still there. -/
def rootV (h : Nat → Option Blk) : Sh → List V
  | .seq a b => rootV h a ++ rootV h b
  | .own b _ => [.own b]
  | .box b s => [.ptr b s.len 0 0]
  | _ => []
def Sh.isRoot : Sh → Bool
  | .seq a b => match a.isRoot with | true => b.isRoot | false => false
  | .own _ _ => true
  | .box _ _ => true
  | .non => true
  | _ => false
/-- Nothing that is not looked at. -/
def noJ : List V → Bool
  | [] => true
  | v :: r => match v with | .jnk => false | .gd .. => false | _ => noJ r
def RC.dec (c : RC) (r : Ret) : Option c.T :=
  ck (c.root.isRoot && (Nat.beq r.2.1.length c.m && (Nat.beq r.2.2.length c.n && (covB true (ofL (r.2.1 ++ r.2.2.map some)) (c.root.nums ++ c.v.nums) (rngL 0 c.m) && covB false (ofL (r.2.1 ++ r.2.2.map some)) (c.root.nums ++ c.v.nums) (rngL c.m c.n))))) (match c.root.dec (ofL (r.2.1 ++ r.2.2.map some)) (rootV (ofL (r.2.1 ++ r.2.2.map some)) c.root) with
    | some (x, []) => (match c.v.dec (ofL (r.2.1 ++ r.2.2.map some)) [r.1] with
      | some (y, []) => some (PT.mk c.root.u c.v.u x y)
      | _ => none)
    | _ => none)
inductive RCs where
  | one (c : RC)
  | two (a b : RCs)
@[reducible] def RCs.T : RCs → Type
  | .one c => PT c.root.u c.v.u c.root.T c.v.T
  | .two a b => a.T ⊕ b.T
def RCs.dflt : (c : RCs) → c.T
  | .one c => PT.mk c.root.u c.v.u c.root.dflt c.v.dflt
  | .two a _ => .inl a.dflt
def RCs.alt : (c : RCs) → Alt Ret c.T
  | .one c => .one c.ret
  | .two a b => .two a.alt b.alt
def RCs.dec : (c : RCs) → Ret → Option c.T
  | .one c, r => c.dec r
  | .two a b, r => match a.dec r with
    | some x => some (.inl x)
    | none => match b.dec r with
      | some y => some (.inr y)
      | none => none
/-- What is said of a function for arguments of one form: nb blocks come in. -/
structure FS where
  a : Sh
  nb : Nat
  r : RCs
  F : a.T → Option r.T
def FS.args (g : FS) (x : g.a.T) : List V := g.a.enc x
def FS.bs (g : FS) (x : g.a.T) : List Blk := newsOf (hof (g.a.blks x)) (rngL 0 g.nb)
def FS.g (g : FS) (as0 : List V) (bs : List Blk) : Option (Sp Ret) := match Nat.beq bs.length g.nb with
  | true => (match covB false (ofL (bs.map some)) g.a.nums (rngL 0 g.nb), g.a.dec (ofL (bs.map some)) as0 with
    | true, some (x, []) => some ⟨g.r.T, g.F x, g.r.dflt, g.r.alt⟩
    | _, _ => none)
  | false => none
def FSs : List FS → List V → List Blk → Option (Sp Ret)
  | [], _, _ => none
  | g :: r, as0, bs => match g.g as0 bs with
    | some sp => some sp
    | none => FSs r as0 bs
def GofL : List (Nat × List FS) → GT
  | [], _, _, _ => none
  | (f, l) :: r, g, as0, bs => match Nat.beq f g with | true => FSs l as0 bs | false => GofL r g as0 bs

/-! ## Loops -/
structure LC where
  root : Sh
  ts : List Nat
  v : Sh
  nx : Nat
  nt : Nat
  ni : Nat
def LC.T (c : LC) : Type := PT c.root.u c.v.u c.root.T c.v.T
def zipT : List Nat → List V → List (Nat × V)
  | t :: ts, v :: vs => (t, v) :: zipT ts vs
  | _, _ => []
def LC.hp (c : LC) (x : c.T) : Nat → Option Blk := hof (c.root.blks (PT.fst c.root.u c.v.u c.root.dflt x) ++ c.v.blks (PT.snd c.root.u c.v.u c.v.dflt x))
def LC.st (c : LC) (x : c.T) : St := ⟨ofT (zipT c.ts (c.v.enc (PT.snd c.root.u c.v.u c.v.dflt x))), c.hp x, c.nx, c.nt, c.ni⟩
def LC.dec (c : LC) (s : St) : Option c.T :=
  ck (c.root.isRoot && (Nat.beq s.nx c.nx && (Nat.beq s.nt c.nt && (Nat.beq s.ni c.ni && covB true s.h (c.root.nums ++ c.v.nums) (rngL 0 s.nx))))) (match c.root.dec s.h (rootV s.h c.root) with
    | some (x, []) => bnd (tmsS s.tm c.ts) fun vs => ck (noJ vs) (match c.v.dec s.h vs with
      | some (y, []) => some (PT.mk c.root.u c.v.u x y)
      | _ => none)
    | _ => none)
inductive LCs where
  | one (e : Exit) (c : LC)
  | two (a b : LCs)
@[reducible] def LCs.T : LCs → Type
  | .one _ c => PT c.root.u c.v.u c.root.T c.v.T
  | .two a b => a.T ⊕ b.T
def LCs.dflt : (c : LCs) → c.T
  | .one _ c => PT.mk c.root.u c.v.u c.root.dflt c.v.dflt
  | .two a _ => .inl a.dflt
def LCs.st : (c : LCs) → c.T → St
  | .one _ c, x => c.st x
  | .two a b, x => match x with
    | .inl y => a.st y
    | .inr y => b.st y
def LCs.alt : (c : LCs) → Alt (Exit × St) c.T
  | .one e c => .one fun x => (e, c.st x)
  | .two a b => .two a.alt b.alt
def exB : Exit → Exit → Bool
  | .normal, .normal => true
  | .ret, .ret => true
  | .exit i, .exit j => Nat.beq i j
  | _, _ => false
def LCs.dec : (c : LCs) → Exit → St → Option c.T
  | .one e c, e', s => ck (exB e e') (c.dec s)
  | .two a b, e, s => match a.dec e s with
    | some x => some (.inl x)
    | none => match b.dec e s with
      | some y => some (.inr y)
      | none => none
/-- Round after round. -/
def iter {σ ρ : Type} (B : σ → Option (σ ⊕ ρ)) : Nat → σ → Option ρ
  | 0, _ => none
  | n + 1, x => match B x with
    | some (.inl y) => iter B n y
    | some (.inr r) => some r
    | none => none
/-- What is said of a loop: at its head (hd, all with exit `normal`), behind it (ou), a round (B). -/
structure LS where
  hd : LCs
  ou : LCs
  B : hd.T → Option (hd.T ⊕ ou.T)
def LS.rd (l : LS) (e : Exit) (s : St) : Option (l.hd.T ⊕ l.ou.T) := match e with
  | .normal => (match l.hd.dec .normal s with | some x => some (.inl x) | none => none)
  | e => (match l.ou.dec e s with | some y => some (.inr y) | none => none)
def LS.g (l : LS) (s : St) : Option (Sp (Exit × St)) := match l.hd.dec .normal s with
  | some x => some ⟨l.ou.T, iter l.B fuel x, l.ou.dflt, l.ou.alt⟩
  | none => none
def LofL : List (Nat × List (Nat × LS)) → LT
  | [], _, _, _ => none
  | (f, l) :: r, g, i, s => match Nat.beq f g with | true => A l i s | false => LofL r g i s
  where A : List (Nat × LS) → Nat → St → Option (Sp (Exit × St))
    | [], _, _ => none
    | (i, l) :: r, j, s => match Nat.beq i j with | true => (match l.g s with | some sp => some sp | none => A r j s) | false => A r j s
end
end Go.Ev
end
