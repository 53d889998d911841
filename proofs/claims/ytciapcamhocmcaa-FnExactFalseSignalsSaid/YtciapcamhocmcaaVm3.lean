/- The value machine, part 3: what the quiet operations yield, and that the model's operations yield it. -/
import Derived.Test.YtciapcamhocmcaaVm2
set_option linter.unusedSimpArgs false
set_option linter.unusedVariables false
namespace Go.Vm
open Go

def V.ofScalar : Value → V
  | .int k n => .int k n
  | .bool b => .bool b
  | .string s => .str s
  | .slice none 0 0 => .nsl
  | .pointer none => .npt
  | .nilFunc => .nfn
  | _ => .any

def V.ofValue : Value → V
  | .agg cs => if cs.toList.all Value.oneCell' then .agg (cs.toList.map V.ofScalar) else .any
  | v => V.ofScalar v

def St.ev (s : St) : Operand → V
  | .tmp t => s.get t
  | .const v => V.ofValue v
  | .func f => .fn f []
  | .global _ => .any

def V.un : V → V
  | .opt _ v => v
  | v => v

def V.gd : V → Bool
  | .opt g _ => g
  | _ => true

def V.wrap (G : Bool) : V → V
  | .opt g v => .opt (G && g) v
  | v => .opt G v

/-- No slice or pointer of others inside. -/
def V.noSl : V → Bool
  | .sl _ | .pv _ _ _ | .opt _ _ | .tup _ => false
  | .agg cs => cs.all fun c => match c with | .sl _ | .pv _ _ _ | .opt _ _ | .tup _ | .agg _ | .fn _ _ => false | _ => true
  | .fn _ cs => cs.isEmpty
  | _ => true

def V.isVal : V → Bool
  | .any | .opt _ _ | .tup _ => false
  | _ => true

/-- No owned block is named inside. -/
def V.noRef : V → Bool
  | .ref _ | .sub _ _ _ | .ptr _ _ _ | .opt _ _ | .tup _ => false
  | .agg cs => cs.all fun c => match c with | .ref _ | .sub _ _ _ | .ptr _ _ _ | .opt _ _ | .tup _ | .agg _ | .fn _ _ => false | _ => true
  | .fn _ cs => cs.isEmpty
  | _ => true

def kindAll (xs : List V) : Kd := if xs.all V.noRef then (if xs.all V.noSl then .flat else .shal) else .mix
def kindOf (v : V) : Kd := kindAll [v]

/-- A slice of capacity 0 becomes an owned one, empty. -/
def settleL (nid : Nat) : List V → List V × List Blk
  | [] => ([], [])
  | .nsl :: l => let r := settleL (nid + 1) l; (.ref nid :: r.1, .arr [] .flat :: r.2)
  | v :: l => let r := settleL nid l; (v :: r.1, r.2)

def settle (nid : Nat) : V → V × List Blk
  | .nsl => (.ref nid, [.arr [] .flat])
  | .agg cs => let r := settleL nid cs; (.agg r.1, r.2)
  | v => (v, [])

def Program.isAggT (P : Program) (t : TypeId) : Bool :=
  match P.underlying t with
  | some (.struct _) | some (.array _ _) => true
  | _ => false
def Program.zeroOf (P : Program) (t : TypeId) : Option Value := (P.info? t).bind (·.zero)

/-- The part of an element that a load takes. -/
def part (P : Program) (T : TypeId) (x : V) (off : Nat) : V :=
  bif Program.isAggT P T then .agg ((x.cells.drop off).take (P.cellsOf T)) else (x.cells.drop off).headD .any

/-- A part of n cells may be taken at 'off'. -/
def PartOK (P : Program) (T : TypeId) (n off : Nat) : Prop := (P.underlying T).isSome = true ∧ 0 < P.cellsOf T ∧ off + P.cellsOf T ≤ n

def pickV (t : Bool) : V → V → V
  | .bool p, .bool q => .bool (bif t then p else q)
  | a, b => bif t then a else b

def Blk.row : Blk → Option (List V × Kd)
  | .dead => none
  | .arr xs k => some (xs, k)
  | .box x k => some ([x], k)

def St.row (s : St) (id : Nat) : Option (List V × Kd) := (s.O[id]?).bind Blk.row

/-- The slices inside an element become such as are only read. -/
def contentL : List V → List V := List.map fun v => match v with | .nsl => .sl [] | v => v
def content : V → V
  | .nsl => .sl []
  | .agg cs => .agg (contentL cs)
  | v => v

abbrev KV := V → List Blk → Bool → Prop

def strLt (a b : ByteArray) : Bool := Op.bytesLess a.toList b.toList

def aBin (P : Program) (G : Bool) (op : BinOp) (xt : TypeId) (vw : Bool) (K : KV) : V → V → Prop
  | .int k a, .int k' b => k = k' ∧ match op with
    | .add => K (.int k (k.wrap (a + b))) [] vw
    | .sub => K (.int k (k.wrap (a - b))) [] vw
    | .mul => K (.int k (k.wrap (a * b))) [] vw
    | .quo => (G = true → b ≠ 0) ∧ K (.int k (k.wrap (a.tdiv b))) [] vw
    | .rem => (G = true → b ≠ 0) ∧ K (.int k (a.tmod b)) [] vw
    | .eql => K (.bool (decide (a = b))) [] vw
    | .neq => K (.bool (!decide (a = b))) [] vw
    | .lss => K (.bool (decide (a < b))) [] vw
    | .leq => K (.bool (decide (a ≤ b))) [] vw
    | .gtr => K (.bool (decide (b < a))) [] vw
    | .geq => K (.bool (decide (b ≤ a))) [] vw
    | _ => False
  | .str a, .str b => match op with
    | .add => (G = true → a.size + b.size ≤ 9223372036854775807) ∧ K (.str (a ++ b)) [] vw
    | .eql => K (.bool (decide (a = b))) [] vw
    | .neq => K (.bool (!decide (a = b))) [] vw
    | .lss => K (.bool (strLt a b)) [] vw
    | .leq => K (.bool (strLt a b || decide (a = b))) [] vw
    | .gtr => K (.bool (!(strLt a b || decide (a = b)))) [] vw
    | .geq => K (.bool (!strLt a b)) [] vw
    | _ => False
  | .bool a, .bool b => P.underlying xt = some .bool ∧ match op with
    | .eql => K (.bool (a == b)) [] vw
    | .neq => K (.bool (!(a == b))) [] vw
    | _ => False
  | _, _ => False

def isNil : Operand → Bool
  | .const (.slice none 0 0) => true
  | _ => false

/-- A slice beside nil: of one that is empty it is not known whether it is nil. -/
def aNil (P : Program) (s : St) (op : BinOp) (xt : TypeId) (K : KV) (v : V) : Prop :=
  (∃ e, P.underlying xt = some (.slice e)) ∧ (op = .eql ∨ op = .neq) ∧ match v with
  | .sl xs => ∀ b : Bool, (xs ≠ [] → b = false) → K (.bool (bif op == .neq then !b else b)) [] s.vw
  | .ref id => match s.row id with
    | some (xs, _) => ∀ b : Bool, (xs ≠ [] → b = false) → K (.bool (bif op == .neq then !b else b)) [] s.vw
    | none => False
  | .sub _ _ n => ∀ b : Bool, (n ≠ 0 → b = false) → K (.bool (bif op == .neq then !b else b)) [] s.vw
  | .nsl => ∀ b : Bool, K (.bool (bif op == .neq then !b else b)) [] s.vw
  | _ => False

def aUn (op : UnOp) (vw : Bool) (K : KV) : V → Prop
  | .bool b => op = .not ∧ K (.bool (!b)) [] vw
  | .int k n => op = .neg ∧ K (.int k (k.wrap (0 - n))) [] vw
  | _ => False

def aLoad (P : Program) (s : St) (T : TypeId) (G : Bool) (K : KV) : V → Prop
  | .ptr id i off => match s.row id with
    | some (xs, k) => (G = true → PartOK P T (xs.getD i .any).cells.length off) ∧
        (let v := part P T (xs.getD i .any) off; K v [] (s.vw || (decide (k = .deep) && !v.noSl)))
    | none => False
  | .pv xs i off => (G = true → PartOK P T (xs.getD i .any).cells.length off) ∧ K (part P T (xs.getD i .any) off) [] s.vw
  | _ => False

def aIndexAddr (P : Program) (s : St) (t : TypeId) (G : Bool) (K : KV) : V → V → Prop
  | .sl xs, .int _ i => (∃ e, P.underlying t = some (.slice e) ∧ ∀ x ∈ xs, x.cells.length = P.cellsOf e) ∧ (G = true → 0 ≤ i ∧ i < xs.length) ∧ K (.pv xs i.toNat 0) [] s.vw
  | .ref id, .int _ i => match s.row id with
    | some (xs, _) => (∃ e, P.underlying t = some (.slice e) ∧ ∀ x ∈ xs, x.cells.length = P.cellsOf e) ∧ (G = true → 0 ≤ i ∧ i < xs.length) ∧ K (.ptr id i.toNat 0) [] s.vw
    | none => False
  | .sub id lo n, .int _ i => match s.row id with
    | some (xs, _) => (∃ e, P.underlying t = some (.slice e) ∧ ∀ x ∈ xs, x.cells.length = P.cellsOf e) ∧ (G = true → 0 ≤ i ∧ i < n) ∧ K (.ptr id (lo + i.toNat) 0) [] s.vw
    | none => False
  | _, _ => False

def aLen (s : St) (vw : Bool) (K : KV) : V → Prop
  | .sl xs => K (.int .i64 xs.length) [] vw
  | .nsl => K (.int .i64 0) [] vw
  | .str b => K (.int .i64 b.size) [] vw
  | .ref id => match s.row id with | some (xs, _) => K (.int .i64 xs.length) [] vw | none => False
  | .sub _ _ n => K (.int .i64 n) [] vw
  | _ => False

def lenOK : Option TypeDesc → V → Prop
  | some .string, .str _ => True
  | some (.slice _), .str _ => False
  | some (.slice _), _ => True
  | _, _ => False

def byteAt (s : ByteArray) (i : Nat) : Int := ((s.data.toList.getD i 0).toNat : Int)

def aIndex (s : St) (G : Bool) (K : KV) : V → V → Prop
  | .str b, .int _ i => (G = true → 0 ≤ i ∧ i < b.size) ∧ K (.int .u8 (byteAt b i.toNat)) [] s.vw
  | _, _ => False

/-- A bound of a slice expression: what is not written is told. -/
def bound (d : Int) : Option V → Option Int
  | none => some d
  | some (.int _ n) => some n
  | _ => none

def ElemsOK (P : Program) (t : TypeId) (xs : List V) : Prop := ∃ e, P.underlying t = some (.slice e) ∧ 0 < P.cellsOf e ∧ ∀ x ∈ xs, x.cells.length = P.cellsOf e

def aSlice (P : Program) (s : St) (t : TypeId) (G : Bool) (K : KV) (x : V) (lo hi : Option V) : Prop :=
  match x with
  | .str b => P.underlying t = some .string ∧ match bound 0 lo, bound b.size hi with
    | some l, some h => (G = true → 0 ≤ l ∧ l ≤ h ∧ h ≤ b.size) ∧ K (.str (b.extract l.toNat h.toNat)) [] s.vw
    | _, _ => False
  | .sl xs => ElemsOK P t xs ∧ match bound 0 lo, bound xs.length hi with
    | some l, some h => (G = true → 0 ≤ l ∧ l ≤ h ∧ h ≤ xs.length) ∧ K (.sl ((xs.take h.toNat).drop l.toNat)) [] s.vw
    | _, _ => False
  | .ref id => match s.row id with
    | some (xs, _) => ElemsOK P t xs ∧ match bound 0 lo, bound xs.length hi with
      | some l, some h => (G = true → 0 ≤ l ∧ l ≤ h ∧ h ≤ xs.length) ∧ K (.sub id l.toNat (h.toNat - l.toNat)) [] s.vw
      | _, _ => False
    | none => False
  | .sub id lo0 n => match s.row id with
    | some (xs, _) => ElemsOK P t xs ∧ match bound 0 lo, bound n hi with
      | some l, some h => (G = true → 0 ≤ l ∧ l ≤ h ∧ h ≤ n) ∧ K (.sub id (lo0 + l.toNat) (h.toNat - l.toNat)) [] s.vw
      | _, _ => False
    | none => False
  | _ => False

def aExtract (vw : Bool) (i : Nat) (K : KV) : V → Prop
  | .tup vs => i < vs.length ∧ K (vs.getD i .any) [] vw
  | _ => False

def aField (P : Program) (xt : TypeId) (f : Nat) (G : Bool) (vw : Bool) (K : KV) : V → Prop
  | .agg cs => match P.underlying xt with
    | some (.struct fs) => match fs[f]? with
      | some fd => (G = true → PartOK P fd.type cs.length fd.offset) ∧ K (part P fd.type (.agg cs) fd.offset) [] vw
      | none => False
    | _ => False
  | _ => False

def aFieldAddr (P : Program) (xt : TypeId) (f : Nat) (vw : Bool) (K : KV) (p : V) : Prop :=
  match P.underlying xt with
  | some (.struct fs) => match fs[f]? with
    | some fd => 0 < P.cellsOf fd.type ∧ match p with
      | .ptr id i off => K (.ptr id i (off + fd.offset)) [] vw
      | .pv xs i off => K (.pv xs i (off + fd.offset)) [] vw
      | _ => False
    | none => False
  | _ => False

def aMinMax (mx : Bool) (vw : Bool) (K : KV) : List V → Prop
  | [.int k a, .int k' b] => k = k' ∧ K (.int k (if mx then (if b > a then b else a) else (if b < a then b else a))) [] vw
  | _ => False

/-- The elements of a literal slice, all written, in order. -/
def litElems (n : Nat) (parts : List (Nat × V)) : Option (List V) :=
  if parts.map (·.1) = List.range n ∧ (parts.map (·.2)).all (fun v => v.isVal) = true then some (parts.map fun p => content p.2) else none

def fillV (places : Nat → Option (Nat × Nat)) : List V → List (Nat × V) → Option (List V)
  | cs, [] => some cs
  | cs, (i, v) :: rest => match places i with
    | some (off, size) => if v.cells.length = size ∧ off + size ≤ cs.length then fillV places (cs.take off ++ v.cells ++ cs.drop (off + size)) rest else none
    | none => none

/-- An element with some cells overwritten. -/
def setCells (x : V) (off : Nat) (v : V) : V :=
  match x with
  | .agg cs => .agg (cs.take off ++ v.cells ++ cs.drop (off + v.cells.length))
  | _ => v

/-- A value as the content of a row: owned slices move into it. The value, which blocks moved, whether a slice that is only read stands in it. -/
def takeCell (s : St) : V → Option (V × List Nat × Bool)
  | .nsl => some (.sl [], [], false)
  | .sl xs => some (.sl xs, [], true)
  | .pv _ _ _ | .sub _ _ _ | .ptr _ _ _ | .opt _ _ | .tup _ | .any | .agg _ | .fn _ _ => none
  | .ref id => match s.row id with
    | some (xs, k) => bif k == .flat || k == .deep || k == .thin then some (.sl xs, [id], false) else none
    | none => none
  | v => some (v, [], false)

def takeCells (s : St) : List V → Option (List V × List Nat × Bool)
  | [] => some ([], [], false)
  | c :: cs => match takeCell s c, takeCells s cs with
    | some (c', l, b), some (cs', l', b') => some (c' :: cs', l ++ l', b || b')
    | _, _ => none

def takeV (s : St) : V → Option (V × List Nat × Bool)
  | .agg cs => match takeCells s cs with
    | some (cs', l, b) => some (.agg cs', l, b)
    | none => none
  | v => takeCell s v

/-- The kind of a row that takes in more: blocks of its own, slices that are only read. -/
def kdJoin : Kd → Bool → Bool → Option Kd
  | .flat, false, false => some .flat
  | .flat, true, false => some .deep
  | .thin, false, false => some .thin
  | .deep, _, false => some .deep
  | .flat, false, true => some .shal
  | .shal, false, _ => some .shal
  | _, _, _ => none

def killAll (O : List Blk) : List Nat → List Blk
  | [] => O
  | id :: l => killAll (O.set id .dead) l

def ops (s : St) (xs : List Operand) : List V := xs.map s.ev

/-- A row of bytes. -/
def unByte : List V → Option (List Int)
  | [] => some []
  | .int .u8 n :: l => (unByte l).map (n :: ·)
  | _ => none
def strOf (ns : List Int) : ByteArray := ns.foldl (fun r n => r.push (UInt8.ofNat n.toNat)) ByteArray.empty

/-- The quiet operations: the value and the new blocks that they give. 'nid': the number of the first new block; 'G': the operation is carried out if it is true. -/
def aop (P : Program) (s : St) (nid : Nat) (G : Bool) (o : Op) (K : KV) : Prop :=
  match o with
  | .move x => K (s.ev x) [] s.vw
  | .assign x => K (settle nid (s.ev x)).1 (settle nid (s.ev x)).2 s.vw
  | .pick c a b => match (s.ev c).un with
    | .bool t => (G = true → (s.ev c).gd = true ∧ (t = true → (s.ev a).gd = true) ∧ (t = false → (s.ev b).gd = true)) ∧ K (pickV t (s.ev a).un (s.ev b).un) [] s.vw
    | _ => False
  | .alloc T => match Program.zeroOf P T with
    | some z => let r := settle nid (V.ofValue z); r.1.isVal = true ∧ 0 < r.1.cells.length ∧ K (.ptr (nid + r.2.length) 0 0) (r.2 ++ [.box r.1 (kindOf r.1)]) s.vw
    | none => False
  | .box _ x => let r := settle nid (s.ev x).un; (G = true → (s.ev x).gd = true) ∧ (G = true → r.1.isVal = true ∧ 0 < r.1.cells.length) ∧ K (.ptr (nid + r.2.length) 0 0) (r.2 ++ [.box r.1 (kindOf r.1)]) s.vw
  | .build T ps => match P.underlying T, Program.zeroOf P T with
    | some (.struct fs), some z => match fillV (fun i => (fs[i]?).map fun f => (f.offset, P.cellsOf f.type)) (V.ofValue z).cells (ps.toList.map fun p => (p.1, (s.ev p.2).un)) with
      | some cs => (∀ f ∈ fs.toList, 0 < P.cellsOf f.type) ∧ (V.ofValue z).isVal = true ∧ (G = true → ∀ p ∈ ps.toList, (s.ev p.2).gd = true ∧ (s.ev p.2).un.isVal = true) ∧ K (.agg cs) [] s.vw
      | none => False
    | _, _ => False
  | .buildSlice T n ps => match P.underlying T, litElems n (ps.toList.map fun p => (p.1, (s.ev p.2).un)) with
    | some (.slice e), some xs => ((G = true → ∀ p ∈ ps.toList, (s.ev p.2).gd = true) ∧ 0 < P.cellsOf e) ∧ n * P.cellsOf e ≤ 16777216 ∧ (Program.zeroOf P e).isSome = true ∧ (∀ x ∈ xs, x.cells.length = P.cellsOf e) ∧
        K (.ref nid) [.arr xs (kindAll xs)] s.vw
    | _, _ => False
  | .load T p => (G = true → (s.ev p).gd = true) ∧ aLoad P s T G K (s.ev p).un
  | .nilCheck x => (G = true → (s.ev x).gd = true) ∧ match (s.ev x).un with
    | .ptr id i off => K (.ptr id i off) [] s.vw
    | .pv xs i off => K (.pv xs i off) [] s.vw
    | _ => False
  | .binOp op xt x y _ => (G = true → (s.ev x).gd = true ∧ (s.ev y).gd = true) ∧ (bif isNil y then aNil P s op xt K (s.ev x).un else aBin P G op xt s.vw K (s.ev x).un (s.ev y).un)
  | .unOp op _ x => (G = true → (s.ev x).gd = true) ∧ aUn op s.vw K (s.ev x).un
  | .convert src dst x => (G = true → (s.ev x).gd = true) ∧ (P.underlying src).isSome = true ∧ match P.underlying dst, (s.ev x).un with
    | some (.int k), .int _ n => K (.int k (k.wrap n)) [] s.vw
    | some .string, .ref id => match (s.row id).bind (fun r => unByte r.1) with
      | some ns => (∃ e, P.underlying src = some (.slice e) ∧ P.underlying e = some (.int .u8)) ∧ K (.str (strOf ns)) [] s.vw
      | none => False
    | _, _ => False
  | .makeFunc (.func f) first cap => first.size = 0 ∧ K (.fn f (cap.toList.map s.ev)) [] s.vw
  | .makeSlice t l c => match P.underlying t, (s.ev l).un, (s.ev c).un with
    | some (.slice e), .int _ n, .int _ m => match Program.zeroOf P e with
      | some z => n = m ∧ (G = true → (s.ev l).gd = true ∧ (s.ev c).gd = true ∧ 0 ≤ n ∧ P.bytesOf e * n ≤ 281474976710656 ∧ n ≤ 9223372036854775807) ∧
          (V.ofValue z).isVal = true ∧ (V.ofValue z).cells.length = P.cellsOf e ∧ 0 < P.cellsOf e ∧ (content (V.ofValue z)).noRef = true ∧ (V.ofValue z).noSl = true ∧
          K (.ref nid) [.arr (List.replicate n.toNat (content (V.ofValue z))) .flat] s.vw
      | none => False
    | _, _, _ => False
  | .slice t x lo hi mx => mx.isNone = true ∧
      (G = true → (s.ev x).gd = true ∧ (∀ y, lo = some y → (s.ev y).gd = true) ∧ (∀ y, hi = some y → (s.ev y).gd = true)) ∧
      aSlice P s t G K (s.ev x).un (lo.map fun y => (s.ev y).un) (hi.map fun y => (s.ev y).un)
  | .fieldAddr xt x f => (G = true → (s.ev x).gd = true) ∧ aFieldAddr P xt f s.vw K (s.ev x).un
  | .field xt x f => (G = true → (s.ev x).gd = true) ∧ aField P xt f G s.vw K (s.ev x).un
  | .indexAddr t x i => (G = true → (s.ev x).gd = true ∧ (s.ev i).gd = true) ∧ aIndexAddr P s t G K (s.ev x).un (s.ev i).un
  | .index t x i => (G = true → (s.ev x).gd = true ∧ (s.ev i).gd = true) ∧ P.underlying t = some .string ∧ aIndex s G K (s.ev x).un (s.ev i).un
  | .extract x i => (G = true → (s.ev x).gd = true) ∧ aExtract s.vw i K (s.ev x).un
  | .call { callee := .builtin .len, args, argTypes } => args.size = 1 ∧ argTypes.size = 1 ∧ lenOK (P.underlying (argTypes.getD 0 0)) (s.ev (args.getD 0 default)).un ∧
      (G = true → (s.ev (args.getD 0 default)).gd = true) ∧ aLen s s.vw K (s.ev (args.getD 0 default)).un
  | .call { callee := .builtin .max, args, .. } => (G = true → ∀ x ∈ args.toList, (s.ev x).gd = true) ∧ aMinMax true s.vw K (args.toList.map fun x => (s.ev x).un)
  | .call { callee := .builtin .min, args, .. } => (G = true → ∀ x ∈ args.toList, (s.ev x).gd = true) ∧ aMinMax false s.vw K (args.toList.map fun x => (s.ev x).un)
  | _ => False

end Go.Vm
