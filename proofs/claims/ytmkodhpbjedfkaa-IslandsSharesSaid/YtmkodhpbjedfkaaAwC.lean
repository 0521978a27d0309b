/- A logic of abstract states for walks: operations without a program's tables, and what each does to a state. -/
import Derived.Test.YtmkodhpbjedfkaaAwB
set_option linter.unusedVariables false
set_option linter.unusedSimpArgs false
namespace Go.Proofs.Ytmkodhpbjedfkaa.Aw
open Go.RowKit

/-- Kinds of cells that a comparison of structs reads. -/
inductive EK where
  | i
  | s
  | b
  deriving Inhabited
inductive AOp where
  | mov (x : Opd)
  | pick (c x y : Opd)
  | bin (op : BinOp) (ty : TypeId) (x y : Opd)
  | un (op : UnOp) (x : Opd)
  | nilS (neg : Bool) (x : Opd)
  | nilP (neg : Bool) (x : Opd)
  | beq (neg : Bool) (x y : Opd)
  | load (n : Nat) (ag : Bool) (p : Opd)
  | store (n : Nat) (p x : Opd)
  | fld (off : Nat) (p : Opd)
  | idx (sz : Nat) (x i : Opd)
  | idxa (len sz : Nat) (x i : Opd)
  | part (off n : Nat) (ag : Bool) (x : Opd)
  | idxv (len sz : Nat) (ag : Bool) (x i : Opd)
  | sidx (x i : Opd)
  | alloc (e : TypeId) (z : Value)
  | box (e : TypeId) (x : Opd)
  | build (z : Value) (parts : List (Nat × Nat × Opd))
  | bsl (e : TypeId) (sz len : Nat) (parts : List (Nat × Opd))
  | mksl (e : TypeId) (sz bytes : Nat) (z : Value) (l c : Opd)
  | slc (sz : Nat) (x : Opd) (lo hi mx : Option Opd)
  | slcs (x : Opd) (lo hi : Option Opd)
  | nilc (x : Opd)
  | ext (i : Nat) (x : Opd)
  | len (x : Opd)
  | lens (x : Opd)
  | mxi (x y : Opd)
  | mni (x y : Opd)
  | mkfn (f : FuncId) (caps : List Opd)
  | itoi (k : IntKind) (x : Opd)
  | stb (e : TypeId) (x : Opd)
  | call (f : FuncId) (args : List Opd)
  | callv (f : Opd) (args : List Opd)
  | app (e : TypeId) (sz bytes : Nat) (z : Value) (x y : Opd)
  | copy (sz : Nat) (x y : Opd)
  | cap (x : Opd)
  | clr (sz : Nat) (z : Value) (x : Opd)
  | appz (e : TypeId) (sz bytes : Nat) (z : Value) (x n : Opd)
  | aeq (neg : Bool) (ks : List EK) (x y : Opd)
  | bad (f : Option FuncId) (xs : List Opd)
  deriving Inhabited

def isAg : TypeDesc → Bool
  | .struct _ => true
  | .array _ _ => true
  | _ => false

def partsOf (P : Program) (fs : Array Field) : List (Nat × Operand) → Option (List (Nat × Nat × Opd))
  | [] => some []
  | (i, x) :: l => match fs[i]? with
    | some fd => match P.info? fd.type with
      | some j => match partsOf P fs l with
        | some r => some ((fd.offset, j.size, Opd.of x) :: r)
        | _ => none
      | _ => none
    | _ => none
/-- The cells of a struct of numbers, texts and truth values. -/
def eqKinds (P : Program) : Nat → List Field → Option (List EK)
  | _, [] => some []
  | o, f :: fs => if f.name ≠ "_" ∧ f.offset = o then match P.underlying f.type with
      | some (.int _) => (eqKinds P (o + 1) fs).map (.i :: ·)
      | some .string => (eqKinds P (o + 1) fs).map (.s :: ·)
      | some .bool => (eqKinds P (o + 1) fs).map (.b :: ·)
      | _ => none
    else none
/-- The program's tables read: an operation for the logic. -/
def comp0 (P : Program) (o : Oper) : Option AOp :=
  match o.op with
  | .move x => some (.mov (.of x))
  | .assign x => some (.mov (.of x))
  | .pick c x y => some (.pick (.of c) (.of x) (.of y))
  | .binOp op ty x y _ => match P.underlying ty with
    | some .bool => match op with
      | .eql => some (.beq false (.of x) (.of y))
      | .neq => some (.beq true (.of x) (.of y))
      | _ => none
    | some (.slice _) => match y with
      | .const (.slice none _ _) => match op with
        | .eql => some (.nilS false (.of x))
        | .neq => some (.nilS true (.of x))
        | _ => none
      | _ => none
    | some (.pointer _) => match y with
      | .const (.pointer none) => match op with
        | .eql => some (.nilP false (.of x))
        | .neq => some (.nilP true (.of x))
        | _ => none
      | _ => none
    | some (.struct fs) => if P.stoodInHeld ty = false ∧ P.eqGuardType P.depth ty = false then match eqKinds P 0 fs.toList with
        | some ks => match op with
          | .eql => some (.aeq false ks (.of x) (.of y))
          | .neq => some (.aeq true ks (.of x) (.of y))
          | _ => none
        | none => none
      else none
    | _ => some (.bin op ty (.of x) (.of y))
  | .unOp op _ x => some (.un op (.of x))
  | .load ty p => match P.underlying ty, P.info? ty with
    | some d, some i => some (.load i.size (isAg d) (.of p))
    | _, _ => none
  | .store ty p x => match P.info? ty with
    | some i => some (.store i.size (.of p) (.of x))
    | _ => none
  | .fieldAddr ty p f => match P.underlying ty with
    | some (.struct fs) => match fs[f]? with
      | some fd => match P.info? fd.type with
        | some i => if i.size = 0 then none else some (.fld fd.offset (.of p))
        | _ => none
      | _ => none
    | _ => none
  | .field ty x f => match P.underlying ty with
    | some (.struct fs) => match fs[f]? with
      | some fd => match P.underlying fd.type, P.info? fd.type with
        | some d, some i => some (.part fd.offset i.size (isAg d) (.of x))
        | _, _ => none
      | _ => none
    | _ => none
  | .indexAddr ty x ix => match P.underlying ty with
    | some (.slice e) => match P.info? e with
      | some i => some (.idx i.size (.of x) (.of ix))
      | _ => none
    | some (.array n e) => match P.info? e with
      | some i => some (.idxa n i.size (.of x) (.of ix))
      | _ => none
    | _ => none
  | .index ty x ix => match P.underlying ty with
    | some (.array n e) => match P.underlying e, P.info? e with
      | some d, some i => some (.idxv n i.size (isAg d) (.of x) (.of ix))
      | _, _ => none
    | some .string => some (.sidx (.of x) (.of ix))
    | _ => none
  | .alloc e => match P.info? e with
    | some i => match i.zero with
      | some z => some (.alloc e z)
      | _ => none
    | _ => none
  | .box e x => some (.box e (.of x))
  | .build ty parts => match P.info? ty with
    | some i => match i.zero with
      | some z => match P.underlying ty with
        | some (.struct fs) => if fs.all fun fd => (P.info? fd.type).isSome then (partsOf P fs parts.toList).map fun l => .build z l else none
        | some (.array _ e) => match P.info? e with
          | some j => some (.build z (parts.toList.map fun (p : Nat × Operand) => (p.1 * j.size, j.size, Opd.of p.2)))
          | _ => none
        | _ => none
      | _ => none
    | _ => none
  | .buildSlice ty len parts => match P.underlying ty with
    | some (.slice e) => match P.info? e with
      | some i => if parts.toList.map (·.1) = List.range len ∧ len * i.size ≤ 2 ^ 24 ∧ i.size ≠ 0 ∧ i.zero.isSome then some (.bsl e i.size len (parts.toList.map fun (p : Nat × Operand) => (p.1, Opd.of p.2))) else none
      | _ => none
    | _ => none
  | .makeSlice ty l c => match P.underlying ty with
    | some (.slice e) => match P.info? e with
      | some i => match i.zero with
        | some z => if z.cells.size = i.size ∧ i.size ≠ 0 then some (.mksl e i.size i.bytes z (.of l) (.of c)) else none
        | _ => none
      | _ => none
    | _ => none
  | .slice ty x lo hi mx => match P.underlying ty with
    | some (.slice e) => match P.info? e with
      | some i => some (.slc i.size (.of x) (lo.map .of) (hi.map .of) (mx.map .of))
      | _ => none
    | some .string => if mx.isSome then none else some (.slcs (.of x) (lo.map .of) (hi.map .of))
    | _ => none
  | .nilCheck x => some (.nilc (.of x))
  | .extract x i => some (.ext i (.of x))
  | .makeFunc (.func f) first caps => if first.isEmpty then some (.mkfn f (caps.toList.map .of)) else none
  | .convert src dst x => match P.underlying src, P.underlying dst with
    | some (.int _), some (.int k) => some (.itoi k (.of x))
    | some .string, some (.slice e) => match P.underlying e with
      | some (.int .u8) => some (.stb e (.of x))
      | _ => none
    | _, _ => none
  | .call c => match c.callee with
    | .builtin .len => match c.args.toList, c.argTypes.toList with
      | [x], [ty] => match P.underlying ty with
        | some .string => some (.lens (.of x))
        | some (.slice _) => some (.len (.of x))
        | _ => none
      | _, _ => none
    | .builtin .max => match c.args.toList with
      | [x, y] => some (.mxi (.of x) (.of y))
      | _ => none
    | .builtin .min => match c.args.toList with
      | [x, y] => some (.mni (.of x) (.of y))
      | _ => none
    | .builtin .append => match c.args.toList, c.argTypes.toList with
      | [x, y], [tx, ty] => match P.underlying tx, P.underlying ty with
        | some (.slice e), some (.slice _) => match P.info? e with
          | some i => match i.zero with
            | some z => if z.cells.size = i.size ∧ i.size ≠ 0 ∧ i.bytes ≠ 0 then some (.app e i.size i.bytes z (.of x) (.of y)) else none
            | _ => none
          | _ => none
        | some (.slice e), some (.int .i64) => match P.info? e with
          | some i => match i.zero with
            | some z => if z.cells.size = i.size ∧ i.size ≠ 0 ∧ i.bytes ≠ 0 then some (.appz e i.size i.bytes z (.of x) (.of y)) else none
            | _ => none
          | _ => none
        | _, _ => none
      | _, _ => none
    | .builtin .cap => match c.args.toList, c.argTypes.toList with
      | [x], [ty] => match P.underlying ty with
        | some (.slice _) => some (.cap (.of x))
        | _ => none
      | _, _ => none
    | .builtin .clear => match c.args.toList, c.argTypes.toList with
      | [x], [ty] => match P.underlying ty with
        | some (.slice e) => match P.info? e with
          | some i => match i.zero with
            | some z => if z.cells.size = i.size then some (.clr i.size z (.of x)) else none
            | _ => none
          | _ => none
        | _ => none
      | _, _ => none
    | .builtin .copy => match c.args.toList, c.argTypes.toList with
      | [x, y], [tx, ty] => match P.underlying tx, P.underlying ty with
        | some (.slice e), some (.slice _) => match P.info? e with
          | some i => some (.copy i.size (.of x) (.of y))
          | _ => none
        | _, _ => none
      | _, _ => none
    | .value (.func f) => match P.funcs[f]? with
      | some fn => if fn.body.isSome ∧ fn.name ≠ "runtime.NumGoroutine" then some (.call f (c.args.toList.map .of)) else none
      | _ => none
    | .value f => some (.callv (.of f) (c.args.toList.map .of))
    | _ => none
  | _ => none

/-- What the logic does not know; of a call of a function without a body, its number and arguments. -/
def badOf (P : Program) (o : Oper) : AOp := match o.op with
  | .call c => match c.callee with
    | .value (.func f) => match P.funcs[f]? with
      | some fn => if fn.body.isNone then .bad (some f) (c.args.toList.map .of) else .bad none []
      | none => .bad none []
    | _ => .bad none []
  | _ => .bad none []
theorem badOf_bad (P : Program) (o : Oper) : ∃ f xs, badOf P o = .bad f xs := by
  unfold badOf
  repeat' split
  all_goals exact ⟨_, _, rfl⟩
/-- The program's tables read; what the logic does not know is 'bad'. -/
def comp (P : Program) (o : Oper) : Option AOp := some ((comp0 P o).getD (badOf P o))
theorem comp0_of {P : Program} {o : Oper} {ao : AOp} (h : comp P o = some ao) (hb : ∀ f xs, ao ≠ .bad f xs) : comp0 P o = some ao := by
  unfold comp at h
  cases hc : comp0 P o with
  | none =>
    rw [hc] at h
    obtain ⟨f, xs, e⟩ := badOf_bad P o
    simp [e] at h
    exact absurd h.symm (hb f xs)
  | some x => rw [hc] at h; simpa using h

def AOp.opds : AOp → List Opd
  | .bad _ xs => xs
  | .mov x | .un _ x | .nilS _ x | .nilP _ x | .load _ _ x | .fld _ x | .part _ _ _ x | .box _ x | .nilc x | .ext _ x | .len x | .lens x | .itoi _ x | .stb _ x | .cap x | .clr _ _ x => [x]
  | .pick c x y => [c, x, y]
  | .bin _ _ x y | .beq _ x y | .aeq _ _ x y | .store _ x y | .idx _ x y | .idxa _ _ x y | .idxv _ _ _ x y | .sidx x y | .mxi x y | .mni x y | .mksl _ _ _ _ x y | .app _ _ _ _ x y | .appz _ _ _ _ x y | .copy _ x y => [x, y]
  | .alloc _ _ => []
  | .build _ ps => ps.map (·.2.2)
  | .bsl _ _ _ ps => ps.map (·.2)
  | .slc _ x lo hi mx => x :: (lo.toList ++ hi.toList ++ mx.toList)
  | .slcs x lo hi => x :: (lo.toList ++ hi.toList)
  | .mkfn _ xs => xs
  | .call _ xs => xs
  | .callv f xs => f :: xs

/-! ### Small functions on abstract values -/
def AV.strip : AV → AV
  | .opt _ x => x
  | x => x
def AV.guard : AV → Bool
  | .opt c _ => c
  | _ => true
def pickAV (c : Bool) : AV → AV → AV
  | .val (.bool p), .val (.bool q) => .val (.bool (bif c then p else q))
  | .val (.int k p), .val (.int k' q) => if k = k' then .val (.int k (bif c then p else q)) else .any
  | .val (.string p), .val (.string q) => .val (.string (bif c then p else q))
  | _, _ => .any
def intBin (op : BinOp) (k : IntKind) (a b : Int) : Option (AV × Prop) :=
  match op with
  | .add => some (.val (.int k (k.wrap (a + b))), True)
  | .sub => some (.val (.int k (k.wrap (a - b))), True)
  | .mul => some (.val (.int k (k.wrap (a * b))), True)
  | .quo => some (.val (.int k (k.wrap (a.tdiv b))), b ≠ 0)
  | .rem => some (.val (.int k (a.tmod b)), b ≠ 0)
  | .and => some (.val (.int k (k.wrap (BitVec.ofInt k.bits a &&& BitVec.ofInt k.bits b).toNat)), True)
  | .or => some (.val (.int k (k.wrap (BitVec.ofInt k.bits a ||| BitVec.ofInt k.bits b).toNat)), True)
  | .xor => some (.val (.int k (k.wrap (BitVec.ofInt k.bits a ^^^ BitVec.ofInt k.bits b).toNat)), True)
  | .eql => some (.val (.bool (a == b)), True)
  | .neq => some (.val (.bool (a != b)), True)
  | .lss => some (.val (.bool (decide (a < b))), True)
  | .leq => some (.val (.bool (decide (a ≤ b))), True)
  | .gtr => some (.val (.bool (decide (a > b))), True)
  | .geq => some (.val (.bool (decide (a ≥ b))), True)
  | _ => none
def strBin (op : BinOp) (a b : ByteArray) : Option (AV × Prop) :=
  match op with
  | .add => some (.val (.string (a ++ b)), a.size + b.size ≤ 9223372036854775807)
  | .eql => some (.val (.bool (a.toList == b.toList)), True)
  | .neq => some (.val (.bool (!(a.toList == b.toList))), True)
  | .lss => some (.val (.bool (Op.bytesLess a.toList b.toList)), True)
  | .leq => some (.val (.bool (Op.bytesLess a.toList b.toList || a.toList == b.toList)), True)
  | .gtr => some (.val (.bool (!(Op.bytesLess a.toList b.toList || a.toList == b.toList))), True)
  | .geq => some (.val (.bool (!(Op.bytesLess a.toList b.toList))), True)
  | _ => none
def binAV (op : BinOp) : AV → AV → Option (AV × Prop)
  | .val (.int k a), .val (.int k' b) => match op with
    | .shl => some (.val (.int k (k.wrap (a * 2 ^ min b.toNat k.bits))), 0 ≤ b)
    | .shr => some (.val (.int k (a.fdiv (2 ^ min b.toNat k.bits))), 0 ≤ b)
    | op => if k = k' then intBin op k a b else none
  | .val (.string a), .val (.string b) => strBin op a b
  | _, _ => none
def AV.cells : AV → List AV
  | .agg cs => cs
  | x => [x]
/-- A cell's value: no struct and no tuple. -/
def cellish : AV → Bool
  | .val (.agg _) => false
  | .val (.tuple _) => false
  | .val _ => true
  | .imm .. => true
  | .pim _ => true
  | .hnd .. => true
  | .ptr .. => true
  | .fn .. => true
  | _ => false
def splice (cs : List AV) (o : Nat) (xs : List AV) : List AV := cs.take o ++ (xs ++ cs.drop (o + xs.length))
def fillAV : List (Nat × Nat × AV) → List AV → List AV
  | [], cs => cs
  | (o, _, x) :: l, cs => fillAV l (splice cs o x.cells)
/-- It is known how many cells the value has. -/
def firm : AV → Prop
  | .any => False
  | .opt _ _ => False
  | .tup _ => False
  | .val (.agg _) => False
  | _ => True
def fillOb : List (Nat × Nat × AV) → List AV → Prop
  | [], _ => True
  | (o, n, x) :: l, cs => firm x ∧ x.cells.length = n ∧ o + n ≤ cs.length ∧ fillOb l (splice cs o x.cells)
def elsOb (sz : Nat) : List AV → Prop
  | [] => True
  | x :: xs => firm x ∧ x.cells.length = sz ∧ shutAll x.cells = true ∧ elsOb sz xs

/-- Structs compared cell by cell. -/
def eqCells : List EK → List AV → List AV → Option Bool
  | [], xs, ys => match xs, ys with
    | [], [] => some true
    | _, _ => none
  | .i :: ks, xs, ys => match xs, ys with
    | .val (.int k a) :: xs, .val (.int k' b) :: ys => if k = k' then (eqCells ks xs ys).map fun r => a == b && r else none
    | _, _ => none
  | .s :: ks, xs, ys => match xs, ys with
    | .val (.string a) :: xs, .val (.string b) :: ys => (eqCells ks xs ys).map fun r => a.toList == b.toList && r
    | _, _ => none
  | .b :: ks, xs, ys => match xs, ys with
    | .val (.bool a) :: xs, .val (.bool b) :: ys => (eqCells ks xs ys).map fun r => a == b && r
    | _, _ => none
def St.reg (s : St) (r : Nat) : Reg := s.rg.getD r .dead
/-- The cells that a pointer looks at: a list, where in it, and what must hold. -/
def ptrCells (s : St) : AV → Option (List AV × Nat × Prop)
  | .pim cs => some (cs, 0, True)
  | .ptr r i o => match s.reg r with
    | .box _ cs => some (cs, o, i = 0)
    | .arr _ _ els => some (els.getD i [], o, i < els.length)
    | .dead => none
  | _ => none

def optInt (ev : Opd → AV) : Option Opd → Option (Option Int)
  | none => some none
  | some x => match ev x with
    | .val (.int _ n) => some (some n)
    | _ => none

/-- An operation on a state: the value, the state, what must hold. -/
def aop (ev : Opd → AV) (s : St) : AOp → Option (AV × St × Prop)
  | .mov x => some (ev x, s, True)
  | .pick c x y => match ev c with
    | .val (.bool b) => some (pickAV b (ev x).strip (ev y).strip, s, (b = true → (ev x).guard = true) ∧ (b = false → (ev y).guard = true))
    | _ => none
  | .bin op _ x y => (binAV op (ev x) (ev y)).map fun (z, ob) => (z, s, ob)
  | .un op x => match op, ev x with
    | .not, .val (.bool b) => some (.val (.bool (!b)), s, True)
    | .neg, .val (.int k n) => some (.val (.int k (k.wrap (0 - n))), s, True)
    | _, _ => none
  | .nilS neg x => match ev x with
    | .imm (some b) _ _ _ => some (.val (.bool (bif neg then !b else b)), s, True)
    | .val (.slice none _ _) => some (.val (.bool (!neg)), s, True)
    | _ => none
  | .nilP neg x => match ev x with
    | .val (.pointer none) => some (.val (.bool (!neg)), s, True)
    | .ptr _ _ _ => some (.val (.bool neg), s, True)
    | .pim _ => some (.val (.bool neg), s, True)
    | _ => none
  | .beq neg x y => match ev x, ev y with
    | .val (.bool b), .val (.bool c) => some (.val (.bool (bif neg then !(b == c) else (b == c))), s, True)
    | _, _ => none
  | .aeq neg ks x y => match ev x, ev y with
    | .agg xs, .agg ys => (eqCells ks xs ys).map fun b => (.val (.bool (bif neg then !b else b)), s, True)
    | _, _ => none
  | .load n ag p => (ptrCells s (ev p)).map fun (cs, o, ob) => (bif ag then .agg ((cs.drop o).take n) else cs.getD o .any, s, ob ∧ o + n ≤ cs.length ∧ (ag = false → n = 1))
  | .store n p x => match ev p with
    | .ptr r i o => match s.reg r with
      | .box e cs => some (.val undef, { s with rg := s.rg.set r (.box e (splice cs o (ev x).cells)) }, i = 0 ∧ (ev x).cells.length = n ∧ o + n ≤ cs.length ∧ (ev x).cells.all cellish = true)
      | .arr e sz els => some (.val undef, { s with rg := s.rg.set r (.arr e sz (els.set i (splice (els.getD i []) o (ev x).cells))) }, i < els.length ∧ (ev x).cells.length = n ∧ o + n ≤ sz ∧ (ev x).cells.all cellish = true ∧ shutAll (ev x).cells = true)
      | .dead => none
    | _ => none
  | .fld off p => match ev p with
    | .pim cs => some (.pim (cs.drop off), s, True)
    | .ptr r i o => some (.ptr r i (o + off), s, True)
    | _ => none
  | .idx sz x i => match ev i with
    | .val (.int _ n) => match ev x with
      | .imm _ _ sz' els => bif sz' == sz then some (.pim (els.getD n.toNat []), s, 0 ≤ n ∧ n < els.length) else none
      | .hnd r off m _ _ => match s.reg r with
        | .arr _ sz' _ => bif sz' == sz then some (.ptr r (off + n.toNat) 0, s, 0 ≤ n ∧ n < m) else none
        | _ => none
      | _ => none
    | _ => none
  | .idxa len sz x i => match ev i with
    | .val (.int _ n) => match ev x with
      | .ptr r j o => some (.ptr r j (o + n.toNat * sz), s, 0 ≤ n ∧ n < len)
      | .pim cs => some (.pim (cs.drop (n.toNat * sz)), s, 0 ≤ n ∧ n < len)
      | _ => none
    | _ => none
  | .part off n ag x => match ev x with
    | .agg cs => some (bif ag then .agg ((cs.drop off).take n) else cs.getD off .any, s, off + n ≤ cs.length ∧ (ag = false → n = 1))
    | _ => none
  | .idxv len sz ag x i => match ev i with
    | .val (.int _ n) => match ev x with
      | .agg cs => some (bif ag then .agg ((cs.drop (n.toNat * sz)).take sz) else cs.getD (n.toNat * sz) .any, s, 0 ≤ n ∧ n < len ∧ n.toNat * sz + sz ≤ cs.length ∧ (ag = false → sz = 1))
      | _ => none
    | _ => none
  | .sidx x i => match ev i with
    | .val (.int _ n) => match ev x with
      | .val (.string b) => some (.val (.int .u8 (b.data.toList.getD n.toNat 0).toNat), s, 0 ≤ n ∧ n < b.size)
      | _ => none
    | _ => none
  | .alloc e z => some (.ptr s.rg.length 0 0, { s with rg := s.rg ++ [.box e (z.cells.toList.map .val)] }, True)
  | .box e x => some (.ptr s.rg.length 0 0, { s with rg := s.rg ++ [.box e (ev x).cells] }, firm (ev x))
  | .build z ps => some (.agg (fillAV (ps.map fun (o, n, x) => (o, n, ev x)) (z.cells.toList.map .val)), s, fillOb (ps.map fun (o, n, x) => (o, n, ev x)) (z.cells.toList.map .val))
  | .bsl e sz len ps => some (.hnd s.rg.length 0 len len true, { s with rg := s.rg ++ [.arr e sz (ps.map fun (_, x) => (ev x).cells)] }, elsOb sz (ps.map fun (_, x) => ev x))
  | .mksl e sz bytes z l c => match ev l, ev c with
    | .val (.int .i64 m), .val (.int .i64 n) => some (.hnd s.rg.length 0 n.toNat n.toNat true, { s with rg := s.rg ++ [.arr e sz (List.replicate n.toNat (z.cells.toList.map .val))] }, m = n ∧ 0 ≤ n ∧ n * bytes ≤ 281474976710656 ∧ n ≤ 9223372036854775807)
    | _, _ => none
  | .slc sz x lo hi mx => match optInt ev lo, optInt ev hi, optInt ev mx with
    | some lo, some hi, some mx => match ev x with
      | .imm nil full sz' els => bif sz' == sz then match mx with
        | none => let l := (lo.getD 0).toNat; let h := (hi.getD els.length).toNat
          some (.imm nil false sz ((els.take h).drop l), s, 0 ≤ lo.getD 0 ∧ lo.getD 0 ≤ hi.getD els.length ∧ hi.getD els.length ≤ els.length)
        | some m => let l := (lo.getD 0).toNat; let h := (hi.getD els.length).toNat
          some (.imm nil true sz ((els.take h).drop l), s, hi.isSome = true ∧ 0 ≤ lo.getD 0 ∧ lo.getD 0 ≤ hi.getD els.length ∧ hi.getD els.length ≤ els.length ∧ m = hi.getD els.length)
        else none
      | .hnd r off n k ex => match s.reg r with
        | .arr _ sz' _ => bif sz' == sz then match mx with
          | none => let l := (lo.getD 0).toNat; let h := (hi.getD n).toNat
            some (.hnd r (off + l) (h - l) (k - l) ex, s, 0 ≤ lo.getD 0 ∧ lo.getD 0 ≤ hi.getD n ∧ hi.getD n ≤ k)
          | some m => let l := (lo.getD 0).toNat; let h := (hi.getD n).toNat
            some (.hnd r (off + l) (h - l) (m.toNat - l) true, s, hi.isSome = true ∧ 0 ≤ lo.getD 0 ∧ lo.getD 0 ≤ hi.getD n ∧ hi.getD n ≤ k ∧ hi.getD n ≤ m ∧ m ≤ k)
          else none
        | _ => none
      | .val (.slice none 0 0) => some (.val (.slice none 0 0), s, lo.getD 0 = 0 ∧ hi.getD 0 = 0 ∧ mx.getD 0 = 0 ∧ (mx.isSome = true → hi.isSome = true))
      | _ => none
    | _, _, _ => none
  | .slcs x lo hi => match optInt ev lo, optInt ev hi with
    | some lo, some hi => match ev x with
      | .val (.string b) => some (.val (.string (b.extract (lo.getD 0).toNat (hi.getD b.size).toNat)), s, 0 ≤ lo.getD 0 ∧ lo.getD 0 ≤ hi.getD b.size ∧ hi.getD b.size ≤ b.size)
      | _ => none
    | _, _ => none
  | .nilc x => match ev x with
    | .pim cs => some (.pim cs, s, True)
    | .ptr r i o => some (.ptr r i o, s, True)
    | .fn f caps => some (.fn f caps, s, True)
    | .val (.func g fs cs) => some (.val (.func g fs cs), s, ∃ f, g = .func f)
    | _ => none
  | .ext i x => match ev x with
    | .tup cs => some (cs.getD i .any, s, i < cs.length)
    | _ => none
  | .len x => match ev x with
    | .imm _ _ _ els => some (.val (.int .i64 els.length), s, True)
    | .hnd _ _ n _ _ => some (.val (.int .i64 n), s, True)
    | .val (.slice _ n _) => some (.val (.int .i64 n), s, True)
    | _ => none
  | .cap x => match ev x with
    | .imm _ true _ els => some (.val (.int .i64 els.length), s, True)
    | .hnd _ _ _ k true => some (.val (.int .i64 k), s, True)
    | .val (.slice none 0 0) => some (.val (.int .i64 0), s, True)
    | _ => none
  | .lens x => match ev x with
    | .val (.string b) => some (.val (.int .i64 b.size), s, True)
    | _ => none
  | .mxi x y => match ev x, ev y with
    | .val (.int k a), .val (.int k' b) => some (.val (.int k (max a b)), s, True)
    | _, _ => none
  | .mni x y => match ev x, ev y with
    | .val (.int k a), .val (.int k' b) => some (.val (.int k (min a b)), s, True)
    | _, _ => none
  | .mkfn f caps => some (.fn f (caps.map ev), s, True)
  | .itoi k x => match ev x with
    | .val (.int _ n) => some (.val (.int k (k.wrap n)), s, True)
    | _ => none
  | .stb e x => match ev x with
    | .val (.string b) => some (.imm (some false) false 1 (b.data.toList.map fun c => [.val (.int .u8 c.toNat)]), s, True)
    | _ => none
  | _ => none
end Go.Proofs.Ytmkodhpbjedfkaa.Aw
