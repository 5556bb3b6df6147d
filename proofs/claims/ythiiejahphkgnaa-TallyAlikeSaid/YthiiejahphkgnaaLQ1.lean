/- The machine that the proofs walk by, and what the functions compute: part 1 of the common texts. No condition. (Own work.) -/
import Derived.Control
import Derived.Laws.Sem
import Derived.Laws.CopyRow
import GoSem.Dispatch
import Derived.Laws.StructEq
import Derived.Laws.NewBlocks
import Derived.Laws.IdiomStrings
import Derived.Laws.MakeOwn
import Derived.Laws.AppendOwn
import Derived.RangeFuncLeaves
import Derived.RecoverIn
import Derived.OrdersIn
import Derived.RangeFuncRecord
import Derived.RangeFuncNested
import Derived.SizedLaws
import Derived.Below
import Derived.ChangeShapes
import Derived.ChangeArms
import Derived.OpenShut
set_option linter.unusedVariables false
set_option linter.unusedSimpArgs false
/- An abstract machine for the model's code: frozen values are trees, owned memory is a list of blocks. Definitions alone (own work). -/
namespace Go.AM

inductive RV where
  | lit (v : Value)
  | agg (cs : List RV)
  | ptr (cs : List RV)
  | sl (cs : List RV) (len : Nat) (cap : Option Nat)
  | nil
  | fn (f : FuncId) (first captured : List RV)

inductive AV where
  | r (x : RV)
  | own (i g o : Nat)
  | osl (i g o len sz : Nat) (cap : Option Nat)
  | agg (cs : List AV)
  | tup (vs : List AV)
  | fn (f : FuncId) (first captured : List AV)
  | yld (i : Nat)
  | omap (i : Nat)
  | dead

instance : Inhabited RV := ⟨.agg []⟩
instance : Inhabited AV := ⟨.dead⟩

inductive Opd where
  | t (n : Nat)
  | k (x : RV)

inductive CK where | i | s | b
  deriving DecidableEq

inductive AOp where
  | mov (x : Opd)
  | pick (c a b : Opd)
  | alloc (t : TypeId) (z : List RV)
  | slot (k : Nat) (t : TypeId) (z : List RV)
  | box (t : TypeId) (x : Opd)
  | build (z : List RV) (ps : List (Nat × Nat × Opd))
  | slit (t : TypeId) (z : List RV) (len sz : Nat) (ps : List (Nat × Nat × Opd))
  | load (n : Nat) (ag : Bool) (a : Opd)
  | store (n : Nat) (a v : Opd)
  | nilc (x : Opd)
  | bin (op : BinOp) (x y : Opd)
  | beq (neg : Bool) (x y : Opd)
  | eqs (neg : Bool) (ks : List CK) (x y : Opd)
  | eqn (neg : Bool) (x : Opd)
  | eqnl (neg : Bool) (x : Opd)
  | not (x : Opd)
  | conv (k : IntKind) (x : Opd)
  | s2b (x : Opd)
  | mkfn (f : FuncId) (first captured : List Opd)
  | slc (sz : Nat) (x : Opd) (lo hi mx : Option Opd)
  | slcA (n sz : Nat) (x : Opd) (lo hi : Option Opd)
  | padd (off : Nat) (x : Opd)
  | fld (off n : Nat) (ag : Bool) (x : Opd)
  | idxS (sz : Nat) (x i : Opd)
  | idxA (len sz : Nat) (x i : Opd)
  | idxV (len sz : Nat) (ag : Bool) (x i : Opd)
  | idxT (x i : Opd)
  | look (kn : Option Nat) (z : RV) (ok : Bool) (m k : Opd)
  | mupd (kn : Option Nat) (m k v : Opd)
  | mkmap
  | mksl (t : TypeId) (z : List RV) (sz bytes : Nat) (len cap : Opd)
  | ext (i : Nat) (x : Opd)
  | call (f : Opd) (args : List Opd)
  | app (t : TypeId) (z : List RV) (sz bytes : Nat) (x y : Opd)
  | lenS (x : Opd)
  | lenT (x : Opd)
  | lenM (x : Opd)
  | min (x y : Opd)
  | max (x y : Opd)
  | cpy (sz : Nat) (d s : Opd)
  | clr (z : List RV) (x : Opd)
  | recov
  | pan (x : Opd)
  | mkif (t : TypeId) (x : Opd)
  | tass (t : TypeId) (z : RV) (x : Opd)
  | defr (f : Opd) (args : List Opd)

/-- An operation of a region: its guard, where its value goes. -/
structure AI where
  g : Option (Nat × Bool)
  dst : Option Nat
  o : AOp

inductive AC where
  | skip
  | reg (ops : List AI)
  | draw (ops : List AI) (slots : Nat) (pairs : List (Nat × Nat)) (gc : List Nat)
  | seq (a b : AC)
  | cond (c : Opd) (a b : AC)
  | block (id : Nat) (c : AC)
  | loop (live : List Nat) (c : AC)
  | rangeF (f : Opd) (params : List Nat) (assign body : AC)
  | exit (id : Nat)
  | ret
  | scope (c : AC)
  | label
  | keep (live : List Nat)

inductive Jmp where
  | exit (id : Nat)
  | ret

abbrev Env := List (Nat × AV)

inductive LSt where | ready | busy | done
  deriving DecidableEq

inductive Blk where
  | cells (cs : List AV) (t : TypeId) (g : Nat)
  | map (es : List (RV × AV))
  | loop (env : Env) (params : List Nat) (assign body : AC) (st : LSt) (pend : Option Jmp)
  | dfr
  | dead

structure Mem where
  h : List Blk
  wr : List Nat := []

inductive ADef where
  | dfr (i : Nat)
  | call (f : AV) (args : List AV)

structure St where
  env : Env
  m : Mem
  defs : List ADef := []
  round : Option Nat := none
  rcv : Option RV := none
  recd : Bool := false

inductive Out where
  | norm
  | exit (id : Nat)
  | ret
  | pan (v : RV)

inductive CRes where
  | ret (v : AV) (m : Mem)
  | pan (v : RV) (m : Mem)

inductive ResV where
  | tmp (t : Nat)
  | cell (t n : Nat) (ag : Bool)

structure AFn where
  nparams : Nat
  body : AC
  res : List ResV

/-! ### values -/
def eget : Env → Nat → AV
  | [], _ => .dead
  | (k, v) :: e, t => if k = t then v else eget e t

def ekeep (live : List Nat) (e : Env) : Env := live.map fun t => (t, eget e t)

def ev (e : Env) : Opd → AV
  | .t n => eget e n
  | .k x => .r x

def AV.toR : AV → Option RV
  | .r x => some x
  | _ => none

def allR : List AV → Option (List RV)
  | [] => some []
  | v :: vs =>
    match v.toR, allR vs with
    | some x, some xs => some (x :: xs)
    | _, _ => none

def mkAgg (cs : List AV) : AV :=
  match allR cs with
  | some rs => .r (.agg rs)
  | none => .agg cs

def rs (l : List RV) : List AV := l.map .r

def AV.cells : AV → List AV
  | .r (.agg cs) => rs cs
  | .agg cs => cs
  | v => [v]

def setN (cs : List AV) (o : Nat) (vs : List AV) : List AV := cs.take o ++ vs ++ cs.drop (o + vs.length)

/-- One cell's value. -/
def ok1 : AV → Bool
  | .r (.agg _) => false
  | .agg _ => false
  | .tup _ => false
  | .dead => false
  | .r (.lit v) => v.oneCell'
  | _ => true

def okV : AV → Bool
  | .r (.agg _) => true
  | .agg _ => true
  | v => ok1 v

def AV.int? : AV → Option Int
  | .r (.lit (.int _ n)) => some n
  | _ => none

def AV.bool? : AV → Option Bool
  | .r (.lit (.bool b)) => some b
  | _ => none

def unit : AV := .tup []

def rvEq : CK → RV → RV → Option Bool
  | .i, .lit (.int k a), .lit (.int k' b) => if k = k' then some (a == b) else none
  | .b, .lit (.bool a), .lit (.bool b) => some (a == b)
  | .s, .lit (.string a), .lit (.string b) => some (a.toList == b.toList)
  | _, _, _ => none

def rvEqs : List CK → List RV → List RV → Option Bool
  | [], [], [] => some true
  | k :: ks, x :: xs, y :: ys =>
    match rvEq k x y, rvEqs ks xs ys with
    | some a, some b => some (a && b)
    | _, _ => none
  | _, _, _ => none

/-- Keys: a number, or an array of `n` numbers of one kind. -/
def keyEq (n : Option Nat) : RV → RV → Option Bool
  | .agg xs, .agg ys => match n with
    | some n => rvEqs (List.replicate n .i) xs ys
    | none => none
  | x, y => match n with
    | some _ => none
    | none => rvEq .i x y

def binL (op : BinOp) : Value → Value → Option Value
  | .int k a, .int k' b =>
    match op with
    | .shl => if b < 0 then none else some (.int k (k.wrap (a * 2 ^ (Nat.min b.toNat k.bits))))
    | .shr => none
    | _ =>
    if k = k' then
      match op with
      | .add => some (.int k (k.wrap (a + b)))
      | .sub => some (.int k (k.wrap (a - b)))
      | .mul => some (.int k (k.wrap (a * b)))
      | .quo => if b = 0 then none else some (.int k (k.wrap (a.tdiv b)))
      | .rem => if b = 0 then none else some (.int k (a.tmod b))
      | .eql => some (.bool (a == b))
      | .neq => some (.bool (a != b))
      | .lss => some (.bool (decide (a < b)))
      | .leq => some (.bool (decide (a ≤ b)))
      | .gtr => some (.bool (decide (a > b)))
      | .geq => some (.bool (decide (a ≥ b)))
      | _ => none
    else none
  | .string a, .string b =>
    match op with
    | .eql => some (.bool (a.toList == b.toList))
    | .neq => some (.bool !(a.toList == b.toList))
    | .add => if a.size + b.size ≤ 1000000000 then some (.string (a ++ b)) else none
    | _ => none
  | _, _ => none

/-! ### memory -/
def rcells (m : Mem) (i g : Nat) : Option (List AV) :=
  match m.h[i]? with
  | some (.cells cs _ g') => if g = g' then some cs else none
  | _ => none

def loadN (m : Mem) (a : AV) (n : Nat) : Option (List AV) :=
  match a with
  | .r (.ptr cs) => if n ≤ cs.length then some (rs (cs.take n)) else none
  | .own i g o =>
    match rcells m i g with
    | some cs => if o + n ≤ cs.length then some ((cs.drop o).take n) else none
    | none => none
  | _ => none

def loadV (m : Mem) (a : AV) (n : Nat) (ag : Bool) : Option AV :=
  match loadN m a n with
  | some cs => if ag then some (mkAgg cs) else match cs with | [v] => some v | _ => none
  | none => none

def storeN (m : Mem) (a : AV) (vs : List AV) : Option Mem :=
  match a with
  | .own i g o =>
    match m.h[i]? with
    | some (.cells cs t g') =>
      if g = g' ∧ o + vs.length ≤ cs.length then some { h := m.h.set i (.cells (setN cs o vs) t g), wr := i :: m.wr } else none
    | _ => none
  | _ => none

/-- What a slice reads: its cells, its length. -/
def slCells (m : Mem) (x : AV) (sz : Nat) : Option (List AV × Nat) :=
  match x with
  | .r (.sl cs len _) => if cs.length = len * sz then some (rs cs, len) else none
  | .r .nil => some ([], 0)
  | .osl i g o len sz' _ =>
    match rcells m i g with
    | some cs => if sz' = sz ∧ o + len * sz ≤ cs.length then some ((cs.drop o).take (len * sz), len) else none
    | none => none
  | _ => none

def new (m : Mem) (b : Blk) : Nat × Mem := (m.h.length, { m with h := m.h ++ [b] })

def fill (cs : List AV) : List (Nat × Nat × AV) → Option (List AV)
  | [] => some cs
  | (o, n, v) :: ps => if okV v = true ∧ v.cells.length = n ∧ o + n ≤ cs.length then fill (setN cs o v.cells) ps else none

def evs (e : Env) (l : List Opd) : List AV := l.map (ev e)
def evp (e : Env) (l : List (Nat × Nat × Opd)) : List (Nat × Nat × AV) := l.map fun p => (p.1, p.2.1, ev e p.2.2)

def repl (z : List RV) (n : Nat) : List RV := (List.replicate n z).flatten

def bound (m : Option AV) (d : Nat) : Option Nat :=
  match m with
  | none => some d
  | some v => match v.int? with
    | some n => if 0 ≤ n then some n.toNat else none
    | none => none

def keyOk (n : Option Nat) (k : RV) : Bool :=
  match n, k with
  | none, _ => true
  | some n, .agg xs => xs.length == n
  | _, _ => false

def findK (n : Option Nat) (k : RV) : List (RV × AV) → Nat → Option (Option (Nat × AV))
  | [], _ => if keyOk n k then some none else none
  | (k', v) :: es, i =>
    match keyEq n k k' with
    | some true => some (some (i, v))
    | some false => findK n k es (i + 1)
    | none => none

def roomOk (n bytes : Nat) : Prop := n * bytes ≤ 140737488355328 ∧ n ≤ 140737488355328
instance (n b : Nat) : Decidable (roomOk n b) := by unfold roomOk; infer_instance

def appendA (m : Mem) (t : TypeId) (sz bytes : Nat) (x y : AV) : Option (AV × Mem) :=
  match slCells m y sz with
  | none => none
  | some (new, n) =>
    match x with
    | .r .nil =>
      if n = 0 then some (x, m)
      else if roomOk n bytes then some (.osl m.h.length 0 0 n sz none, { m with h := m.h ++ [.cells new t 0] }) else none
    | .r (.sl cs len cap) =>
      if n = 0 then some (x, m)
      else match cap with
        | some c =>
          if c < len + n ∧ cs.length = len * sz ∧ roomOk (len + n) bytes then
            some (.osl m.h.length 0 0 (len + n) sz none, { m with h := m.h ++ [.cells (rs cs ++ new) t 0] })
          else none
        | none => none
    | .osl i g 0 len sz' none =>
      match m.h[i]? with
      | some (.cells cs t' g') =>
        if g = g' ∧ t = t' ∧ sz' = sz ∧ len * sz ≤ cs.length ∧ roomOk (len + n) bytes then
          if n = 0 then some (x, m) else
          some (.osl i (g + 1) 0 (len + n) sz none, { h := m.h.set i (.cells (cs.take (len * sz) ++ new) t (g + 1)), wr := i :: m.wr })
        else none
      | _ => none
    | .osl i g 0 len sz' (some cp) =>
      match m.h[i]? with
      | some (.cells cs t' g') =>
        if g = g' ∧ t = t' ∧ sz' = sz ∧ len * sz ≤ cs.length ∧ roomOk (len + n) bytes then
          if n = 0 then some (x, m)
          else if len + n ≤ cp then some (.osl i g 0 (len + n) sz none, { h := m.h.set i (.cells (cs.take (len * sz) ++ new) t g), wr := i :: m.wr })
          else some (.osl m.h.length 0 0 (len + n) sz none, { m with h := m.h ++ [.cells (cs.take (len * sz) ++ new) t 0] })
        else none
      | _ => none
    | _ => none

/-- What an interface value holds. -/
def ifaceV (v : Value) : AV :=
  match v with
  | .agg cs => if cs.size = 0 then .r (.agg []) else .r (.lit v)
  | v => .r (.lit v)

/-- The result of an operation that is no call. `rc`: what a recover would give. -/
def stepOp (e : Env) (m : Mem) : AOp → Option (AV × Mem)
  | .mov x => some (ev e x, m)
  | .pick c a b => match (ev e c).bool? with
    | some t => some (if t then ev e a else ev e b, m)
    | none => none
  | .alloc t z => some (.own m.h.length 0 0, { m with h := m.h ++ [.cells (rs z) t 0] })
  | .box t x => if okV (ev e x) then some (.own m.h.length 0 0, { m with h := m.h ++ [.cells (ev e x).cells t 0] }) else none
  | .build z ps => match fill (rs z) (evp e ps) with
    | some cs => some (mkAgg cs, m)
    | none => none
  | .slit t z len sz ps => match fill (rs (repl z len)) (evp e ps) with
    | some cs =>
      if cs.length = len * sz ∧ len * sz ≤ 16777216 then
        match allR cs with
        | some l => some (.r (.sl l len (some len)), m)
        | none => some (.osl m.h.length 0 0 len sz (some len), { m with h := m.h ++ [.cells cs t 0] })
      else none
    | none => none
  | .load n ag a => match loadV m (ev e a) n ag with
    | some v => some (v, m)
    | none => none
  | .store n a v =>
    if okV (ev e v) = true ∧ (ev e v).cells.length = n then
      match storeN m (ev e a) (ev e v).cells with
      | some m' => some (.dead, m')
      | none => none
    else none
  | .nilc x => match ev e x with
    | .own i g o => some (.own i g o, m)
    | .r (.ptr cs) => some (.r (.ptr cs), m)
    | .fn f a b => some (.fn f a b, m)
    | .r (.fn f a b) => some (.r (.fn f a b), m)
    | _ => none
  | .bin op x y => match ev e x, ev e y with
    | .r (.lit a), .r (.lit b) => match binL op a b with
      | some v => some (.r (.lit v), m)
      | none => none
    | _, _ => none
  | .beq neg x y => match (ev e x).bool?, (ev e y).bool? with
    | some a, some b => some (.r (.lit (.bool (if neg then !(a == b) else a == b))), m)
    | _, _ => none
  | .eqs neg ks x y => match ev e x, ev e y with
    | .r (.agg a), .r (.agg b) =>
      match rvEqs ks a b with
      | some t => some (.r (.lit (.bool (if neg then !t else t))), m)
      | none => none
    | _, _ => none
  | .eqn neg x => match ev e x with
    | .r (.lit .nilIface) => some (.r (.lit (.bool !neg)), m)
    | .r (.lit (.iface _ _)) => some (.r (.lit (.bool neg)), m)
    | _ => none
  | .eqnl neg x => match ev e x with
    | .r .nil => some (.r (.lit (.bool !neg)), m)
    | .r (.sl _ len _) => if len = 0 then none else some (.r (.lit (.bool neg)), m)
    | .osl .. => some (.r (.lit (.bool neg)), m)
    | _ => none
  | .not x => match (ev e x).bool? with
    | some b => some (.r (.lit (.bool !b)), m)
    | none => none
  | .conv k x => match (ev e x).int? with
    | some n => some (.r (.lit (.int k (k.wrap n))), m)
    | none => none
  | .s2b x => match ev e x with
    | .r (.lit (.string s)) => some (.r (.sl (s.data.toList.map fun b => .lit (.int .u8 b.toNat)) s.size none), m)
    | _ => none
  | .mkfn f a b => match allR (evs e a), allR (evs e b) with
    | some a', some b' => some (.r (.fn f a' b'), m)
    | _, _ => some (.fn f (evs e a) (evs e b), m)
  | .slc sz x lo hi mx => match ev e x with
    | .r .nil =>
      if bound (lo.map (ev e)) 0 = some 0 ∧ bound (hi.map (ev e)) 0 = some 0 ∧ bound (mx.map (ev e)) 0 = some 0 ∧ (mx.isNone = true ∨ hi.isSome = true) then some (.r .nil, m) else none
    | .r (.sl cs len cap) =>
      match bound (lo.map (ev e)) 0, bound (hi.map (ev e)) len, bound (mx.map (ev e)) len with
      | some l, some h, some z =>
        if l ≤ h ∧ h ≤ len ∧ cs.length = len * sz ∧ h ≤ z ∧ z ≤ len ∧ (mx.isNone = true ∨ hi.isSome = true) then
          some (.r (.sl ((cs.drop (l * sz)).take ((h - l) * sz)) (h - l) (if mx.isNone then cap.map (· - l) else some (z - l))), m) else none
      | _, _, _ => none
    | .osl i g o len sz' cap =>
      match rcells m i g with
      | none => none
      | some _ =>
      match bound (lo.map (ev e)) 0, bound (hi.map (ev e)) len, bound (mx.map (ev e)) len with
      | some l, some h, some z =>
        if l ≤ h ∧ h ≤ len ∧ sz' = sz then
          if mx.isNone then
            if l < h ∨ l = 0 then some (.osl i g (o + l * sz) (h - l) sz (cap.map (· - l)), m) else some (.r (.sl [] 0 none), m)
          else if l = h ∧ h = z ∧ hi.isSome = true then some (.r (.sl [] 0 (some 0)), m) else none
        else none
      | _, _, _ => none
    | _ => none
  | .slcA n sz x lo hi => match bound (lo.map (ev e)) 0, bound (hi.map (ev e)) n with
    | some l, some h =>
      if l ≤ h ∧ h ≤ n then
        match ev e x with
        | .r (.ptr cs) => if n * sz ≤ cs.length then some (.r (.sl ((cs.drop (l * sz)).take ((h - l) * sz)) (h - l) (some (n - l))), m) else none
        | .own i g o => match rcells m i g with
          | some cs => if o + n * sz ≤ cs.length then
              (if l < h ∨ l = 0 then some (.osl i g (o + l * sz) (h - l) sz (some (n - l)), m) else some (.r (.sl [] 0 (some (n - l))), m)) else none
          | none => none
        | _ => none
      else none
    | _, _ => none
  | .padd off x => match ev e x with
    | .own i g o => some (.own i g (o + off), m)
    | .r (.ptr cs) => some (.r (.ptr (cs.drop off)), m)
    | _ => none
  | .fld off n ag x => match ev e x with
    | .r (.agg cs) =>
      if ag then (if off + n ≤ cs.length then some (.r (.agg ((cs.drop off).take n)), m) else none)
      else match cs[off]? with
        | some v => some (.r v, m)
        | none => none
    | .agg cs =>
      if ag then (if off + n ≤ cs.length then some (mkAgg ((cs.drop off).take n), m) else none)
      else match cs[off]? with
        | some v => some (v, m)
        | none => none
    | _ => none
  | .idxS sz x i => match (ev e i).int?, ev e x with
    | some n, .r (.sl cs len _) => if 0 ≤ n ∧ n < (len : Int) then some (.r (.ptr (cs.drop (n.toNat * sz))), m) else none
    | some n, .osl i g o len sz' _ => if 0 ≤ n ∧ n < (len : Int) ∧ sz' = sz then some (.own i g (o + n.toNat * sz), m) else none
    | _, _ => none
  | .idxA len sz x i => match (ev e i).int?, ev e x with
    | some n, .r (.ptr cs) => if 0 ≤ n ∧ n < (len : Int) then some (.r (.ptr (cs.drop (n.toNat * sz))), m) else none
    | some n, .own i g o => if 0 ≤ n ∧ n < (len : Int) then some (.own i g (o + n.toNat * sz), m) else none
    | _, _ => none
  | .idxV len sz ag x i => match (ev e i).int?, ev e x with
    | some n, .r (.agg cs) =>
      if 0 ≤ n ∧ n < (len : Int) ∧ cs.length = len * sz then
        if ag then some (.r (.agg ((cs.drop (n.toNat * sz)).take sz)), m)
        else match cs[n.toNat * sz]? with
          | some v => some (.r v, m)
          | none => none
      else none
    | _, _ => none
  | .idxT x i => match (ev e i).int?, ev e x with
    | some n, .r (.lit (.string s)) => if 0 ≤ n then match s.data.toList[n.toNat]? with
        | some b => some (.r (.lit (.int .u8 b.toNat)), m)
        | none => none
      else none
    | _, _ => none
  | .look kn z ok mp k => match ev e mp, ev e k with
    | .omap i, .r k => match m.h[i]? with
      | some (.map es) => match findK kn k es 0 with
        | some (some (_, v)) => some (if ok then .tup [v, .r (.lit (.bool true))] else v, m)
        | some none => some (if ok then .tup [.r z, .r (.lit (.bool false))] else .r z, m)
        | none => none
      | _ => none
    | _, _ => none
  | .mupd kn mp k v => match ev e mp, ev e k with
    | .omap i, .r k => match m.h[i]? with
      | some (.map es) => match findK kn k es 0 with
        | some (some (j, _)) => some (.dead, { h := m.h.set i (.map (es.set j (k, ev e v))), wr := i :: m.wr })
        | some none => some (.dead, { h := m.h.set i (.map (es ++ [(k, ev e v)])), wr := i :: m.wr })
        | none => none
      | _ => none
    | _, _ => none
  | .mkmap => some (.omap m.h.length, { m with h := m.h ++ [.map []] })
  | .mksl t z sz bytes len cap => match (ev e len).int?, (ev e cap).int? with
    | some n, some c => if 0 ≤ n ∧ n = c ∧ roomOk n.toNat bytes ∧ z.length = sz ∧ (0 < sz ∨ n = 0) then
        some (.osl m.h.length 0 0 n.toNat sz (some n.toNat), { m with h := m.h ++ [.cells (rs (repl z n.toNat)) t 0] }) else none
    | _, _ => none
  | .ext i x => match ev e x with
    | .tup vs => match vs[i]? with
      | some v => some (v, m)
      | none => none
    | _ => none
  | .app t _ sz bytes x y => appendA m t sz bytes (ev e x) (ev e y)
  | .lenS x => match ev e x with
    | .r .nil => some (.r (.lit (.int .i64 0)), m)
    | .r (.sl _ len _) => some (.r (.lit (.int .i64 len)), m)
    | .osl _ _ _ len _ _ => some (.r (.lit (.int .i64 len)), m)
    | _ => none
  | .lenT x => match ev e x with
    | .r (.lit (.string s)) => some (.r (.lit (.int .i64 s.size)), m)
    | _ => none
  | .lenM x => match ev e x with
    | .omap i => match m.h[i]? with
      | some (.map es) => some (.r (.lit (.int .i64 es.length)), m)
      | _ => none
    | _ => none
  | .min x y => match ev e x, ev e y with
    | .r (.lit (.int k a)), .r (.lit (.int _ b)) => some (.r (.lit (.int k (if b < a then b else a))), m)
    | _, _ => none
  | .max x y => match ev e x, ev e y with
    | .r (.lit (.int k a)), .r (.lit (.int _ b)) => some (.r (.lit (.int k (if b > a then b else a))), m)
    | _, _ => none
  | .cpy sz d s => match slCells m (ev e s) sz, ev e d with
    | some (cs, n), .osl i g o len sz' _ =>
      if sz' = sz then
        let k := Nat.min n len
        match storeN m (.own i g o) (cs.take (k * sz)) with
        | some m' => some (.r (.lit (.int .i64 k)), m')
        | none => none
      else none
    | some (_, _), .r (.sl _ 0 _) => some (.r (.lit (.int .i64 0)), m)
    | some (_, _), .r .nil => some (.r (.lit (.int .i64 0)), m)
    | _, _ => none
  | .clr z x => match ev e x with
    | .r (.sl _ 0 _) => some (unit, m)
    | .r .nil => some (unit, m)
    | .osl i g o len _ _ => if len = 0 then some (unit, m) else match storeN m (.own i g o) (rs (repl z len)) with
      | some m' => some (unit, m')
      | none => none
    | _ => none
  | .mkif t x => match ev e x with
    | .r (.lit v) => some (.r (.lit (.iface t v)), m)
    | .r (.agg []) => some (.r (.lit (.iface t (.agg #[]))), m)
    | _ => none
  | .tass t z x => match ev e x with
    | .r (.lit .nilIface) => some (.tup [.r z, .r (.lit (.bool false))], m)
    | .r (.lit (.iface u v)) => if u = t then some (.tup [ifaceV v, .r (.lit (.bool true))], m)
      else some (.tup [.r z, .r (.lit (.bool false))], m)
    | _ => none
  | .call .. | .recov | .pan _ | .defr .. | .slot .. => none

/-! ### what a call hands back -/
mutual
def fz (m : Mem) (n0 : Nat) : Nat → AV → Option AV
  | 0, _ => none
  | k + 1, v =>
    match v with
    | .r x => some (.r x)
    | .own i g o =>
      if i < n0 then some v else
      match rcells m i g with
      | some cs => match fzs m n0 k (cs.drop o) with
        | some l => match allR l with
          | some l => some (.r (.ptr l))
          | none => none
        | none => none
      | none => none
    | .osl i g o len sz cap =>
      if i < n0 then some v else
      match rcells m i g with
      | some cs => if o + len * sz ≤ cs.length then match fzs m n0 k ((cs.drop o).take (len * sz)) with
        | some l => match allR l with
          | some l => some (.r (.sl l len cap))
          | none => none
        | none => none
        else none
      | none => none
    | .agg cs => match fzs m n0 k cs with
      | some l => some (mkAgg l)
      | none => none
    | .tup vs => match fzs m n0 k vs with
      | some l => some (.tup l)
      | none => none
    | .fn f a b => match fzs m n0 k a, fzs m n0 k b with
      | some a', some b' => match allR a', allR b' with
        | some a'', some b'' => some (.r (.fn f a'' b''))
        | _, _ => some (.fn f a' b')
      | _, _ => none
    | .yld i => if i < n0 then some v else none
    | .omap i => if i < n0 then some v else none
    | .dead => some .dead
def fzs (m : Mem) (n0 : Nat) : Nat → List AV → Option (List AV)
  | 0, _ => none
  | _ + 1, [] => some []
  | k + 1, v :: vs =>
    match fz m n0 k v, fzs m n0 k vs with
    | some x, some xs => some (x :: xs)
    | _, _ => none
end

mutual
def lt0 (n0 : Nat) : AV → Bool
  | .r _ => true
  | .own i _ _ => decide (i < n0)
  | .osl i _ _ _ _ _ => decide (i < n0)
  | .agg cs => lt0s n0 cs
  | .tup vs => lt0s n0 vs
  | .fn _ a b => lt0s n0 a && lt0s n0 b
  | .yld i => decide (i < n0)
  | .omap i => decide (i < n0)
  | .dead => true
def lt0s (n0 : Nat) : List AV → Bool
  | [] => true
  | v :: vs => lt0 n0 v && lt0s n0 vs
end

def blkLt (n0 : Nat) : Blk → Bool
  | .cells cs _ _ => lt0s n0 cs
  | .map es => lt0s n0 (es.map (·.2))
  | .loop env .. => lt0s n0 (env.map (·.2))
  | .dfr => true
  | .dead => true

/-- What was written and lay there when the call began. -/
def oldWr (n0 : Nat) (wr : List Nat) : List Nat := wr.filter (· < n0)

def settle (fuel : Nat) (keepAll : Bool) (m0 : Mem) (v : AV) (m : Mem) : AV × Mem :=
  let n0 := m0.h.length
  let wr := oldWr n0 m.wr
  if keepAll then (v, { h := m.h, wr := wr ++ m0.wr }) else
  match fz m n0 fuel v with
  | some v' => if wr.all (fun i => match m.h[i]? with | some b => blkLt n0 b | none => true) then (v', { h := m.h.take n0, wr := wr ++ m0.wr }) else (v, { h := m.h, wr := wr ++ m0.wr })
  | none => (v, { h := m.h, wr := wr ++ m0.wr })

/-! ### code -/
structure Kit where
  call : AV → List AV → Mem → Option CRes
  iter : (St → Option (Out × St)) → St → Option (Out × St)

def iterN : Nat → (St → Option (Out × St)) → St → Option (Out × St)
  | 0, _, _ => none
  | n + 1, b, s =>
    match b s with
    | some (.norm, s') => iterN n b s'
    | r => r

def putD (s : St) (d : Option Nat) (v : AV) (m : Mem) : St :=
  match d with
  | some t => { s with env := (t, v) :: s.env, m := m }
  | none => { s with m := m }

def denOp (K : Kit) (s : St) (d : Option Nat) : AOp → Option (Out × St)
  | .call f args =>
    match K.call (ev s.env f) (evs s.env args) s.m with
    | some (.ret v m) => some (.norm, putD s d v m)
    | some (.pan v m) => some (.pan v, { s with m := m })
    | none => none
  | .recov =>
    match s.rcv with
    | some v => some (.norm, { putD s d (.r v) s.m with rcv := none, recd := true })
    | none => some (.norm, putD s d (.r (.lit .nilIface)) s.m)
  | .pan x => match ev s.env x with
    | .r (.lit (.iface t v)) => some (.pan (.lit (.iface t v)), s)
    | _ => none
  | .defr f args =>
    if s.round.isNone then match ev s.env f with
      | .r (.fn ..) | .fn .. => some (.norm, putD { s with defs := .call (ev s.env f) (evs s.env args) :: s.defs } d .dead s.m)
      | _ => none
    else none
  | o => match stepOp s.env s.m o with
    | some (v, m) => some (.norm, putD s d v m)
    | none => none

/-- Whether a guarded operation is wanted. -/
def wants (e : Env) : Option (Nat × Bool) → Option Bool
  | none => some true
  | some (t, want) => match eget e t with
    | .r (.lit (.bool b)) => some (b == want)
    | .tup [] => some false
    | _ => none

def denI (K : Kit) (s : St) (i : AI) : Option (Out × St) :=
  match wants s.env i.g with
  | some true => denOp K s i.dst i.o
  | some false => some (.norm, putD s i.dst unit s.m)
  | none => none

def denIs (K : Kit) (s : St) : List AI → Option (Out × St)
  | [] => some (.norm, s)
  | i :: l =>
    match denI K s i with
    | some (.norm, s') => denIs K s' l
    | r => r

/-! ### regions that draw their order -/
def avIdx : AV → List Nat
  | .own i _ _ => [i]
  | .osl i _ _ _ _ _ => [i]
  | .omap i => [i]
  | _ => []

/-- The blocks that an operation may look at or write. -/
def foot (e : Env) (base : Nat) : AOp → List Nat
  | .load _ _ a => avIdx (ev e a)
  | .store _ a _ => avIdx (ev e a)
  | .slc _ x _ _ _ => avIdx (ev e x)
  | .slcA _ _ x _ _ => avIdx (ev e x)
  | .look _ _ _ m _ => avIdx (ev e m)
  | .mupd _ m _ _ => avIdx (ev e m)
  | .lenM x => avIdx (ev e x)
  | .app _ _ _ _ x y => avIdx (ev e x) ++ avIdx (ev e y)
  | .cpy _ d s => avIdx (ev e d) ++ avIdx (ev e s)
  | .clr _ x => avIdx (ev e x)
  | .slot k _ _ => [base + k]
  | _ => []

/-- One operation of such a region: what it comes to, the memory behind it (with its own writes alone). -/
def stepD (K : Kit) (base : Nat) (e : Env) (h : List Blk) : AOp → Option (AV × Mem)
  | .call f args => match K.call (ev e f) (evs e args) { h := h } with
    | some (.ret v m) => some (v, m)
    | _ => none
  | .slot k t z => match h[base + k]? with
    | some .dead => some (.own (base + k) 1 0, { h := h.set (base + k) (.cells (rs z) t 1), wr := [base + k] })
    | _ => none
  | .alloc .. | .box .. | .mkmap | .mksl .. | .cpy .. | .clr .. => none
  | .slit t z len sz ps => match stepOp e { h := h } (.slit t z len sz ps) with
    | some (.r v, m) => some (.r v, m)
    | _ => none
  | o => stepOp e { h := h } o

/-- The block that an operation lays. -/
def slotOf (base : Nat) : AOp → Option Nat
  | .slot k _ _ => some (base + k)
  | _ => none

def slotFree (base : Nat) (o : AOp) (fs : List (List Nat × List Nat)) : Bool :=
  match slotOf base o with
  | some b => fs.all fun f => !f.2.contains b
  | none => true

/-- What an operation wrote, new blocks with it. -/
def wrAll (n : Nat) (m : Mem) : List Nat := m.wr ++ List.range' n (m.h.length - n)

def denD (K : Kit) (base : Nat) : List AI → Env → Mem → List (List Nat × List Nat) → Option (Env × Mem × List (List Nat × List Nat))
  | [], e, m, fs => some (e, m, fs)
  | i :: l, e, m, fs =>
    match wants e i.g with
    | some true => match stepD K base e m.h i.o with
      | some (v, m') =>
        if slotFree base i.o fs = true then
          denD K base l (match i.dst with | some t => (t, v) :: e | none => e) { h := m'.h, wr := m'.wr ++ m.wr } (fs ++ [(foot e base i.o, wrAll m.h.length m')])
        else none
      | none => none
    | some false => denD K base l (match i.dst with | some t => (t, unit) :: e | none => e) m (fs ++ [([], [])])
    | none => none

def apartL (xs ys : List Nat) : Bool := xs.all fun x => !ys.contains x

def pairsOk (fs : List (List Nat × List Nat)) (ps : List (Nat × Nat)) : Bool :=
  ps.all fun (i, j) => match fs[i]?, fs[j]? with
    | some (f, w), some (f', w') => apartL w f' && apartL w' f
    | _, _ => false

def jmpOut : Option Jmp → Out
  | none => .norm
  | some (.exit id) => .exit id
  | some .ret => .ret

def loopAt (s : St) : Nat := if s.round.isNone then s.m.h.length + 1 else s.m.h.length
def loopHeap (s : St) (params : List Nat) (assign body : AC) : List Blk :=
  s.m.h ++ ((if s.round.isNone then [.dfr] else []) ++ [.loop s.env params assign body .ready none])
/-- The round's own record is there. -/
def roundOk (s : St) : Bool :=
  match s.round with
  | none => true
  | some i => match s.m.h[i]? with
    | some (.loop ..) => true
    | _ => false
def loopDefs (s : St) : List ADef := if s.round.isNone then .dfr s.m.h.length :: s.defs else s.defs

def den (K : Kit) : AC → St → Option (Out × St)
  | .skip, s => some (.norm, s)
  | .reg ops, s => denIs K s ops
  | .draw ops slots pairs _, s =>
    match denD K s.m.h.length ops s.env { h := s.m.h ++ List.replicate slots .dead, wr := s.m.wr } [] with
    | some (e, m, fs) => if pairsOk fs pairs then some (.norm, { s with env := e, m := m }) else none
    | none => none
  | .seq a b, s =>
    match den K a s with
    | some (.norm, s') => den K b s'
    | r => r
  | .cond c a b, s =>
    match (ev s.env c).bool? with
    | some t => if t then den K a s else den K b s
    | none => none
  | .block id c, s =>
    match den K c s with
    | some (.exit id', s') => if id' = id then some (.norm, s') else some (.exit id', s')
    | r => r
  | .loop live c, s => K.iter (fun s => den K c { s with env := ekeep live s.env }) s
  | .exit id, s => some (.exit id, s)
  | .ret, s => some (.ret, s)
  | .scope c, s => den K c s
  | .label, s => some (.norm, s)
  | .keep live, s => some (.norm, { s with env := ekeep live s.env })
  | .rangeF f params assign body, s =>
    if roundOk s = false then none else
    match ev s.env f with
    | .yld _ => none
    | _ =>
    match K.call (ev s.env f) [.yld (loopAt s)] { s.m with h := loopHeap s params assign body } with
    | some (.ret _ m) =>
      match m.h[loopAt s]? with
      | some (.loop _ _ _ _ st pend) =>
        if st = .busy then none else some (jmpOut pend, { s with m := { h := m.h.set (loopAt s) .dead, wr := loopAt s :: m.wr }, defs := loopDefs s })
      | _ => none
    | some (.pan v m) => some (.pan v, { s with m := m, defs := loopDefs s })
    | none => none

def enumFrom (n : Nat) : List AV → Env
  | [] => []
  | v :: vs => (n, v) :: enumFrom (n + 1) vs

def resOf (e : Env) (m : Mem) : ResV → Option AV
  | .tmp t => some (eget e t)
  | .cell t n ag => loadV m (eget e t) n ag

def resAll (e : Env) (m : Mem) : List ResV → Option (List AV)
  | [] => some []
  | r :: l =>
    match resOf e m r, resAll e m l with
    | some v, some vs => some (v :: vs)
    | _, _ => none

def tupOf : List AV → AV
  | [v] => v
  | vs => .tup vs

inductive Md where
  | returning
  | panicking (v : RV)

def Md.toRec : Md → Option RV
  | .returning => none
  | .panicking v => some v

/-- The deferred calls, the last one first. `d`: a deferred call with what it may recover. -/
def runDefs (d : Option RV → AV → List AV → Mem → Option (CRes × Bool)) : List ADef → Md → Mem → Option (Md × Mem)
  | [], md, m => some (md, m)
  | .dfr i :: l, md, m =>
    match m.h[i]? with
    | some .dfr => runDefs d l md { h := m.h.set i .dead, wr := i :: m.wr }
    | _ => none
  | .call f args :: l, md, m =>
    match d md.toRec f args m with
    | some (.ret _ m', recd) => runDefs d l (if recd then .returning else md) m'
    | _ => none

structure Cfg where
  prog : FuncId → Option AFn
  ext : FuncId → Option (List AV → Mem → Option CRes)
  keepAll : FuncId → Bool
  fz : Nat
  dfr : Bool := false

/-- A function's run: its body, its deferred calls, its results. -/
def runBody (C : Cfg) (K : Kit) (d : Option RV → AV → List AV → Mem → Option (CRes × Bool)) (f : FuncId) (fn : AFn) (args : List AV) (m : Mem) (rec : Option RV) : Option (CRes × Bool) :=
  if args.length = fn.nparams then
    match den K fn.body { env := enumFrom 0 args, m := { h := m.h, wr := [] }, rcv := rec } with
    | some (o, s) =>
      match (match o with | .norm | .ret => some Md.returning | .pan v => some (Md.panicking v) | .exit _ => none) with
      | some md =>
        match runDefs d s.defs md s.m with
        | some (.returning, m') =>
          match resAll s.env m' fn.res with
          | some vs => some (.ret (settle C.fz (C.keepAll f) m (tupOf vs) m').1 (settle C.fz (C.keepAll f) m (tupOf vs) m').2, s.recd)
          | none => none
        | some (.panicking v, m') => some (.pan v { h := m'.h, wr := oldWr m.h.length m'.wr ++ m.wr }, s.recd)
        | none => none
      | none => none
    | none => none
  else none

def putParams (e : Env) : List Nat → List AV → Option Env
  | [], [] => some e
  | p :: ps, v :: vs => putParams ((p, v) :: e) ps vs
  | _, _ => none

def outJmp : Out → Option Jmp
  | .exit id => some (.exit id)
  | .ret => some .ret
  | _ => none

def roundEnd (fuel i : Nat) (m : Mem) (o : Out) (s2 : St) : Option CRes :=
  match s2.m.h[i]? with
  | some (.loop env params assign body .busy none) =>
    some (.ret (.r (.lit (.bool (outJmp o).isNone))) (settle fuel false m (.r (.lit (.bool (outJmp o).isNone)))
      { h := s2.m.h.set i (.loop env params assign body (if (outJmp o).isNone then .ready else .done) (outJmp o)), wr := i :: s2.m.wr }).2)
  | _ => none

def roundBody (K : Kit) (fuel i : Nat) (m : Mem) (bd : AC) (s1 : St) : Option CRes :=
  match s1.m.h[i]? with
  | some (.loop env params assign body .ready none) =>
    match den K bd { s1 with m := { h := s1.m.h.set i (.loop env params assign body .busy none), wr := i :: s1.m.wr } } with
    | some (.pan _, _) => none
    | some (o, s2) => roundEnd fuel i m o s2
    | none => none
  | _ => none

/-- A round of a loop over a function. -/
def runRound (K : Kit) (fuel : Nat) (i : Nat) (args : List AV) (m : Mem) : Option CRes :=
  match m.h[i]? with
  | some (.loop env params assign body .ready none) =>
    match putParams env params args with
    | some env' =>
      match den K assign { env := env', m := { h := m.h, wr := [] }, round := some i } with
      | some (.norm, s1) => roundBody K fuel i m body s1
      | _ => none
    | none => none
  | _ => none

mutual
def callN (C : Cfg) : Nat → AV → List AV → Mem → Option CRes
  | 0, _, _, _ => none
  | n + 1, f, args, m =>
    match f with
    | .r (.fn f a b) => (funN C n f (rs a ++ args ++ rs b) m none).map (·.1)
    | .fn f a b => (funN C n f (a ++ args ++ b) m none).map (·.1)
    | .yld i => runRound { call := callN C n, iter := iterN n } C.fz i args m
    | _ => none
def funN (C : Cfg) : Nat → FuncId → List AV → Mem → Option RV → Option (CRes × Bool)
  | 0, _, _, _, _ => none
  | n + 1, f, args, m, rec =>
    match C.ext f with
    | some e => (e args m).map (·, false)
    | none =>
      match C.prog f with
      | some fn => runBody C { call := callN C n, iter := iterN n } (fun rec f args m => dfrN C n rec f args m) f fn args m rec
      | none => none
def dfrN (C : Cfg) : Nat → Option RV → AV → List AV → Mem → Option (CRes × Bool)
  | 0, _, _, _, _ => none
  | n + 1, rec, f, args, m =>
    match C.dfr, f with
    | true, .r (.fn f a b) => funN C n f (rs a ++ args ++ rs b) m rec
    | true, .fn f a b => funN C n f (a ++ args ++ b) m rec
    | _, _ => none
end

end Go.AM
/- The relation between the abstract machine and the model's worlds, and how it lasts (own work). -/
namespace Go.AM

/-! ### lists side by side -/
inductive All2 {α β : Type} (R : α → β → Prop) : List α → List β → Prop where
  | nil : All2 R [] []
  | cons {x : α} {y : β} {xs : List α} {ys : List β} (h : R x y) (t : All2 R xs ys) : All2 R (x :: xs) (y :: ys)

namespace All2
variable {α β : Type} {R S : α → β → Prop}
theorem length {xs : List α} {ys : List β} (h : All2 R xs ys) : xs.length = ys.length := by induction h <;> simp_all
theorem mono {xs : List α} {ys : List β} (h : All2 R xs ys) (hm : ∀ x y, R x y → S x y) : All2 S xs ys := by
  induction h with
  | nil => exact .nil
  | cons h _ ih => exact .cons (hm _ _ h) ih
theorem monoMem {xs : List α} {ys : List β} (h : All2 R xs ys) (hm : ∀ x ∈ xs, ∀ y, R x y → S x y) : All2 S xs ys := by
  induction h with
  | nil => exact .nil
  | cons h _ ih => exact .cons (hm _ (by simp) _ h) (ih fun x hx => hm x (by simp [hx]))
theorem get {xs : List α} {ys : List β} (h : All2 R xs ys) {i : Nat} {x : α} (hx : xs[i]? = some x) : ∃ y, ys[i]? = some y ∧ R x y := by
  induction h generalizing i with
  | nil => simp at hx
  | cons h _ ih =>
    cases i with
    | zero => simp at hx; subst hx; exact ⟨_, by simp, h⟩
    | succ i => simp at hx; simpa using ih hx
theorem getR {xs : List α} {ys : List β} (h : All2 R xs ys) {i : Nat} {y : β} (hy : ys[i]? = some y) : ∃ x, xs[i]? = some x ∧ R x y := by
  induction h generalizing i with
  | nil => simp at hy
  | cons h _ ih =>
    cases i with
    | zero => simp at hy; subst hy; exact ⟨_, by simp, h⟩
    | succ i => simp at hy; simpa using ih hy
theorem append {xs xs' : List α} {ys ys' : List β} (h : All2 R xs ys) (h' : All2 R xs' ys') : All2 R (xs ++ xs') (ys ++ ys') := by
  induction h with
  | nil => exact h'
  | cons h _ ih => exact .cons h ih
theorem take {xs : List α} {ys : List β} (h : All2 R xs ys) (n : Nat) : All2 R (xs.take n) (ys.take n) := by
  induction h generalizing n with
  | nil => simpa using All2.nil
  | cons h _ ih => cases n with
    | zero => exact .nil
    | succ n => exact .cons h (ih n)
theorem drop {xs : List α} {ys : List β} (h : All2 R xs ys) (n : Nat) : All2 R (xs.drop n) (ys.drop n) := by
  induction h generalizing n with
  | nil => simpa using All2.nil
  | cons h t ih => cases n with
    | zero => exact .cons h t
    | succ n => exact ih n
theorem of_get {xs : List α} {ys : List β} (hl : xs.length = ys.length) (h : ∀ (i : Nat) (x : α) (y : β), xs[i]? = some x → ys[i]? = some y → R x y) : All2 R xs ys := by
  induction xs generalizing ys with
  | nil => cases ys with
    | nil => exact .nil
    | cons => simp at hl
  | cons x xs ih => cases ys with
    | nil => simp at hl
    | cons y ys => exact .cons (h 0 x y (by simp) (by simp)) (ih (by simpa using hl) fun i a b ha hb => h (i + 1) a b (by simpa using ha) (by simpa using hb))
theorem replicate {x : α} {y : β} (h : R x y) (n : Nat) : All2 R (List.replicate n x) (List.replicate n y) := by
  induction n with
  | zero => exact .nil
  | succ n ih => exact .cons h ih
theorem flatten {xs : List (List α)} {ys : List (List β)} (h : All2 (All2 R) xs ys) : All2 R xs.flatten ys.flatten := by
  induction h with
  | nil => exact .nil
  | cons h _ ih => simpa using h.append ih
theorem set {xs : List α} {ys : List β} (h : All2 R xs ys) {x : α} {y : β} (hr : R x y) (i : Nat) : All2 R (xs.set i x) (ys.set i y) := by
  induction h generalizing i with
  | nil => exact .nil
  | cons h t ih => cases i with
    | zero => exact .cons hr t
    | succ i => exact .cons h (ih i)
theorem map {γ δ : Type} {xs : List α} {ys : List β} {T : γ → δ → Prop} {f : α → γ} {g : β → δ} (h : All2 R xs ys) (hm : ∀ x y, R x y → T (f x) (g y)) : All2 T (xs.map f) (ys.map g) := by
  induction h with
  | nil => exact .nil
  | cons h _ ih => exact .cons (hm _ _ h) ih
theorem mapL {γ : Type} {xs : List α} {ys : List β} {T : γ → β → Prop} {f : α → γ} (h : All2 R xs ys) (hm : ∀ x y, R x y → T (f x) y) : All2 T (xs.map f) ys := by
  induction h with
  | nil => exact .nil
  | cons h _ ih => exact .cons (hm _ _ h) ih
theorem ofMapL {γ : Type} {zs : List γ} {ys : List β} {f : γ → α} (h : All2 R (zs.map f) ys) : All2 (fun z y => R (f z) y) zs ys := by
  induction zs generalizing ys with
  | nil => cases h; exact .nil
  | cons z zs ih => cases h with
    | cons h t => exact .cons h (ih t)
end All2

/-! ### values -/
/-- What lies in frozen memory from a place on. -/
def At (M : Nat → Option Obj) (b o : Nat) (vs : List Value) : Prop :=
  ∃ c t fr, M b = some (.cells c t fr) ∧ ∀ k v, vs[k]? = some v → c[o + k]? = some v

def Ones (vs : List Value) : Prop := ∀ v ∈ vs, v.oneCell' = true

mutual
def RVR (M : Nat → Option Obj) : RV → Value → Prop
  | .lit v, w => w = v
  | .agg cs, w => ∃ vs : List Value, w = .agg vs.toArray ∧ RVRs M cs vs ∧ Ones vs
  | .ptr cs, w => ∃ b o vs, w = .pointer (some ⟨b, o, none⟩) ∧ At M b o vs ∧ RVRs M cs vs ∧ Ones vs
  | .sl cs len cap, w => ∃ a k vs, w = .slice a len k ∧ len ≤ k ∧ (∀ c, cap = some c → k = c) ∧ RVRs M cs vs ∧ Ones vs ∧
      (0 < len → ∃ b o, a = some ⟨b, o, none⟩ ∧ At M b o vs) ∧ (a = none → k = 0)
  | .nil, w => w = .slice none 0 0
  | .fn f x y, w => ∃ vs us : List Value, w = .func (.func f) vs.toArray us.toArray ∧ RVRs M x vs ∧ RVRs M y us
def RVRs (M : Nat → Option Obj) : List RV → List Value → Prop
  | [], [] => True
  | x :: xs, v :: vs => RVR M x v ∧ RVRs M xs vs
  | _, _ => False
end

theorem rvrs_iff {M : Nat → Option Obj} {xs : List RV} {vs : List Value} : RVRs M xs vs ↔ All2 (RVR M) xs vs := by
  induction xs generalizing vs with
  | nil => cases vs with
    | nil => simp [RVRs, All2.nil]
    | cons => simp only [RVRs]; exact ⟨False.elim, fun h => by cases h⟩
  | cons x xs ih => cases vs with
    | nil => simp only [RVRs]; exact ⟨False.elim, fun h => by cases h⟩
    | cons v vs => simp only [RVRs, ih]; exact ⟨fun h => .cons h.1 h.2, fun h => by cases h with | cons h t => exact ⟨h, t⟩⟩

def Msub (M M' : Nat → Option Obj) : Prop := ∀ b o, M b = some o → M' b = some o
theorem Msub.refl (M : Nat → Option Obj) : Msub M M := fun _ _ h => h
theorem Msub.trans {A B C : Nat → Option Obj} (h : Msub A B) (k : Msub B C) : Msub A C := fun b o x => k b o (h b o x)
theorem At.mono {M M' : Nat → Option Obj} {b o : Nat} {vs : List Value} (h : At M b o vs) (hm : Msub M M') : At M' b o vs := by
  obtain ⟨c, t, fr, h1, h2⟩ := h
  exact ⟨c, t, fr, hm _ _ h1, h2⟩

mutual
theorem RVR.mono {M M' : Nat → Option Obj} (hm : Msub M M') : ∀ (x : RV) (v : Value), RVR M x v → RVR M' x v
  | .lit _, _, h => h
  | .agg cs, v, h => by
    simp only [RVR] at h ⊢
    obtain ⟨vs, h1, h2, h3⟩ := h
    exact ⟨vs, h1, RVRs.mono hm cs vs h2, h3⟩
  | .ptr cs, v, h => by
    simp only [RVR] at h ⊢
    obtain ⟨b, o, vs, h1, h2, h3, h4⟩ := h
    exact ⟨b, o, vs, h1, h2.mono hm, RVRs.mono hm cs vs h3, h4⟩
  | .sl cs len cap, v, h => by
    simp only [RVR] at h ⊢
    obtain ⟨a, k, vs, h1, h2, h3, h4, h5, h6, h7⟩ := h
    exact ⟨a, k, vs, h1, h2, h3, RVRs.mono hm cs vs h4, h5, fun hp => (by obtain ⟨b, o, e, ha⟩ := h6 hp; exact ⟨b, o, e, ha.mono hm⟩), h7⟩
  | .nil, _, h => h
  | .fn f x y, v, h => by
    simp only [RVR] at h ⊢
    obtain ⟨vs, us, h1, h2, h3⟩ := h
    exact ⟨vs, us, h1, RVRs.mono hm x vs h2, RVRs.mono hm y us h3⟩
theorem RVRs.mono {M M' : Nat → Option Obj} (hm : Msub M M') : ∀ (xs : List RV) (vs : List Value), RVRs M xs vs → RVRs M' xs vs
  | [], [], _ => trivial
  | [], _ :: _, h => h.elim
  | _ :: _, [], h => h.elim
  | x :: xs, v :: vs, h => ⟨RVR.mono hm x v h.1, RVRs.mono hm xs vs h.2⟩
end

structure Cx where
  β : Nat → Nat
  G : Nat → Nat
  Z : Nat → Nat
  n : Nat
  M : Nat → Option Obj

mutual
def VR (c : Cx) : AV → Value → Prop
  | .r x, w => RVR c.M x w
  | .own i g o, w => i < c.n ∧ g ≤ c.G i ∧ (∃ a, w = .pointer (some a)) ∧ (g = c.G i → w = .pointer (some ⟨c.β i, o, none⟩))
  | .osl i g o len sz cap, w => i < c.n ∧ g ≤ c.G i ∧ ∃ a k, w = .slice (some a) len k ∧ (g = c.G i → a = ⟨c.β i, o, none⟩ ∧ len ≤ k ∧ o + k * sz ≤ c.Z i ∧ ∀ x, cap = some x → k = x)
  | .agg cs, w => ∃ vs : List Value, w = .agg vs.toArray ∧ VRs c cs vs ∧ Ones vs
  | .tup cs, w => ∃ vs : List Value, w = .tuple vs.toArray ∧ VRs c cs vs
  | .fn f x y, w => ∃ vs us : List Value, w = .func (.func f) vs.toArray us.toArray ∧ VRs c x vs ∧ VRs c y us
  | .yld i, w => i < c.n ∧ ∃ l, w = .func (.yield l) #[] #[] ∧ (c.G i = 0 → l = c.β i)
  | .omap i, w => i < c.n ∧ ∃ l, w = .map (some l) ∧ (c.G i = 0 → l = c.β i)
  | .dead, _ => True
def VRs (c : Cx) : List AV → List Value → Prop
  | [], [] => True
  | x :: xs, v :: vs => VR c x v ∧ VRs c xs vs
  | _, _ => False
end

theorem vrs_iff {c : Cx} {xs : List AV} {vs : List Value} : VRs c xs vs ↔ All2 (VR c) xs vs := by
  induction xs generalizing vs with
  | nil => cases vs with
    | nil => simp [VRs, All2.nil]
    | cons => simp only [VRs]; exact ⟨False.elim, fun h => by cases h⟩
  | cons x xs ih => cases vs with
    | nil => simp only [VRs]; exact ⟨False.elim, fun h => by cases h⟩
    | cons v vs => simp only [VRs, ih]; exact ⟨fun h => .cons h.1 h.2, fun h => by cases h with | cons h t => exact ⟨h, t⟩⟩

/-- How the view of memory goes on: a block may get a new place only with a new generation. -/
structure Cx.Le (c c' : Cx) : Prop where
  n : c.n ≤ c'.n
  M : Msub c.M c'.M
  G : ∀ i, i < c.n → c.G i ≤ c'.G i
  same : ∀ i, i < c.n → c'.G i = c.G i → c'.β i = c.β i ∧ c'.Z i = c.Z i

theorem Cx.Le.refl (c : Cx) : Cx.Le c c := ⟨Nat.le_refl _, Msub.refl _, fun _ _ => Nat.le_refl _, fun _ _ _ => ⟨rfl, rfl⟩⟩
theorem Cx.Le.trans {a b c : Cx} (h : Cx.Le a b) (k : Cx.Le b c) : Cx.Le a c := by
  refine ⟨Nat.le_trans h.n k.n, h.M.trans k.M, fun i hi => Nat.le_trans (h.G i hi) (k.G i (Nat.lt_of_lt_of_le hi h.n)), fun i hi e => ?_⟩
  have hb : i < b.n := Nat.lt_of_lt_of_le hi h.n
  have h1 := h.G i hi
  have h2 := k.G i hb
  have e1 : b.G i = a.G i := by omega
  have e2 : c.G i = b.G i := by omega
  exact ⟨(k.same i hb e2).1.trans (h.same i hi e1).1, (k.same i hb e2).2.trans (h.same i hi e1).2⟩

mutual
theorem VR.mono {c c' : Cx} (h : c.Le c') : ∀ (x : AV) (v : Value), VR c x v → VR c' x v
  | .r x, v, hv => RVR.mono h.M x v hv
  | .own i g o, v, hv => by
    simp only [VR] at hv ⊢
    obtain ⟨h1, h2, h3, h4⟩ := hv
    refine ⟨Nat.lt_of_lt_of_le h1 h.n, Nat.le_trans h2 (h.G i h1), h3, fun e => ?_⟩
    have hg := h.G i h1
    have e' : c'.G i = c.G i := by omega
    rw [h4 (by omega), (h.same i h1 e').1]
  | .osl i g o len sz cap, v, hv => by
    simp only [VR] at hv ⊢
    obtain ⟨h1, h2, a, k, h3, h4⟩ := hv
    refine ⟨Nat.lt_of_lt_of_le h1 h.n, Nat.le_trans h2 (h.G i h1), a, k, h3, fun e => ?_⟩
    have hg := h.G i h1
    have e' : c'.G i = c.G i := by omega
    obtain ⟨k1, k2, k3, k4⟩ := h4 (by omega)
    exact ⟨by rw [k1, (h.same i h1 e').1], k2, by rw [(h.same i h1 e').2]; exact k3, k4⟩
  | .agg cs, v, hv => by
    simp only [VR] at hv ⊢
    obtain ⟨vs, h1, h2, h3⟩ := hv
    exact ⟨vs, h1, VRs.mono h cs vs h2, h3⟩
  | .tup cs, v, hv => by
    simp only [VR] at hv ⊢
    obtain ⟨vs, h1, h2⟩ := hv
    exact ⟨vs, h1, VRs.mono h cs vs h2⟩
  | .fn f x y, v, hv => by
    simp only [VR] at hv ⊢
    obtain ⟨vs, us, h1, h2, h3⟩ := hv
    exact ⟨vs, us, h1, VRs.mono h x vs h2, VRs.mono h y us h3⟩
  | .yld i, v, hv => by
    simp only [VR] at hv ⊢
    obtain ⟨h1, l, h2, h3⟩ := hv
    refine ⟨Nat.lt_of_lt_of_le h1 h.n, l, h2, fun e => ?_⟩
    have hg := h.G i h1
    rw [h3 (by omega), (h.same i h1 (by omega)).1]
  | .omap i, v, hv => by
    simp only [VR] at hv ⊢
    obtain ⟨h1, l, h2, h3⟩ := hv
    refine ⟨Nat.lt_of_lt_of_le h1 h.n, l, h2, fun e => ?_⟩
    have hg := h.G i h1
    rw [h3 (by omega), (h.same i h1 (by omega)).1]
  | .dead, _, _ => trivial
theorem VRs.mono {c c' : Cx} (h : c.Le c') : ∀ (xs : List AV) (vs : List Value), VRs c xs vs → VRs c' xs vs
  | [], [], _ => trivial
  | [], _ :: _, h => h.elim
  | _ :: _, [], h => h.elim
  | x :: xs, v :: vs, hv => ⟨VR.mono h x v hv.1, VRs.mono h xs vs hv.2⟩
end

/-! ### environments -/
def EnvR (c : Cx) (e : Env) (ts : Array Value) : Prop := ∀ t, VR c (eget e t) (ts.getD t undef)

theorem EnvR.mono {c c' : Cx} {e : Env} {ts : Array Value} (h : EnvR c e ts) (hl : c.Le c') : EnvR c' e ts := fun t => VR.mono hl _ _ (h t)

theorem EnvR.put {c : Cx} {e : Env} {ts : Array Value} (h : EnvR c e ts) {x : AV} {v : Value} (hv : VR c x v) (t : Nat) (ht : t < ts.size) : EnvR c ((t, x) :: e) (ts.setIfInBounds t v) := by
  intro u
  simp only [eget]
  by_cases e1 : t = u
  · subst e1
    rw [if_pos rfl]
    simpa [Array.getD_eq_getD_getElem?, ht] using hv
  · rw [if_neg e1]
    have := h u
    simpa [Array.getD_eq_getD_getElem?, Array.getElem?_setIfInBounds, e1] using this

theorem EnvR.putDead {c : Cx} {e : Env} {ts : Array Value} (h : EnvR c e ts) (v : Value) (t : Nat) : EnvR c ((t, .dead) :: e) (ts.setIfInBounds t v) := by
  intro u
  simp only [eget]
  by_cases e1 : t = u
  · subst e1; rw [if_pos rfl]; trivial
  · rw [if_neg e1]
    have := h u
    simpa [Array.getD_eq_getD_getElem?, Array.getElem?_setIfInBounds, e1] using this

theorem eget_keep (e : Env) (t : Nat) : ∀ live : List Nat, eget (ekeep live e) t = if t ∈ live then eget e t else .dead
  | [] => by simp [ekeep, eget]
  | l :: live => by
    have ih := eget_keep e t live
    simp only [ekeep] at ih
    simp only [ekeep, List.map_cons, eget, ih, List.mem_cons]
    by_cases h : l = t
    · subst h; simp
    · rw [if_neg h]
      by_cases h2 : t ∈ live
      · simp [h2]
      · rw [if_neg h2, if_neg]; rintro (rfl | h3) <;> simp_all

theorem EnvR.keep {c : Cx} {e : Env} {ts : Array Value} (h : EnvR c e ts) (live : List Nat) : EnvR c (ekeep live e) ts := by
  intro t
  rw [eget_keep]
  split
  · exact h t
  · trivial

/-! ### memory -/
/-- A map's entries. -/
def EntR (c : Cx) (x : RV × AV) (e : MapEntry) : Prop := RVR c.M x.1 e.key ∧ VR c x.2 e.val

def Jmp.code : Jmp → Code
  | .exit id => .exit id
  | .ret => .ret

def LSt.state : LSt → LoopState
  | .ready => .ready
  | .busy => .busy
  | .done => .done

/-- `K`: which abstract code stands for which code. -/
def BlkR (K : Nat → AC → Code → Prop) (c : Cx) (i : Nat) : Blk → Obj → Prop
  | .cells cs t g, o => g = c.G i ∧ ∃ C : Array Value, o = .cells C t (0, 0) ∧ C.size = c.Z i ∧ ∃ vs rest, C.toList = vs ++ rest ∧ VRs c cs vs ∧ Ones vs
  | .map es, o => c.G i = 0 ∧ ∃ ES clock, o = .map ES clock ∧ All2 (EntR c) es ES.toList
  | .loop env params assign body st pend, o => c.G i = 0 ∧ ∃ l : Loop, o = .loop l ∧ l.state = st.state ∧ l.pending = pend.map Jmp.code ∧ EnvR c env l.tmps ∧ l.params.toList = params ∧ (∀ p ∈ params, p < l.tmps.size) ∧ ∃ nt, nt ≤ l.tmps.size ∧ K nt assign l.assign ∧ K nt body l.body
  | .dfr, o => c.G i = 0 ∧ o = .deferred (some [])
  | .dead, _ => True

def Blk.alive : Blk → Prop
  | .dead => False
  | _ => True

/-- What a step may not touch: places of the model's memory; blocks that are kept for later. -/
structure Fr where
  x : Nat → Prop
  r : Nat → Prop
instance : CoeFun Fr fun _ => Nat → Prop := ⟨Fr.x⟩

structure Rel (K : Nat → AC → Code → Prop) (c : Cx) (X : Fr) (h : List Blk) (w : World) : Prop where
  len : h.length = c.n
  blk : ∀ i b, h[i]? = some b → b.alive → ∃ o, w.heap[c.β i]? = some o ∧ BlkR K c i b o
  inj : ∀ i j b d, h[i]? = some b → b.alive → h[j]? = some d → d.alive → c.β i = c.β j → i = j
  own : ∀ i b, h[i]? = some b → b.alive → c.M (c.β i) = none ∧ ¬ X (c.β i)
  mem : ∀ b o, c.M b = some o → w.heap[b]? = some o
  frm : ∀ b, X b → b < w.heap.size ∧ c.M b = none
  res : ∀ i, X.r i → h[i]? = some .dead

/-- What a step leaves as it was. -/
structure Adv (X : Fr) (c : Cx) (w : World) (c' : Cx) (w' : World) : Prop where
  le : c.Le c'
  frame : ∀ b, X b → w'.heap[b]? = w.heap[b]?
  size : w.heap.size ≤ w'.heap.size
  os : w'.os = w.os
  tape : w'.tape = w.tape
  output : w'.output = w.output
  fix : ∀ i, i < c.n → (X (c.β i) ∨ X.r i) → c'.G i = c.G i

theorem Adv.refl (X : Fr) (c : Cx) (w : World) : Adv X c w c w := ⟨.refl c, fun _ _ => rfl, Nat.le_refl _, rfl, rfl, rfl, fun _ _ _ => rfl⟩
theorem Adv.trans {X : Fr} {a b c : Cx} {u v w : World} (h : Adv X a u b v) (k : Adv X b v c w) : Adv X a u c w :=
  ⟨h.le.trans k.le, fun b hb => (k.frame b hb).trans (h.frame b hb), Nat.le_trans h.size k.size, k.os.trans h.os, k.tape.trans h.tape, k.output.trans h.output, fun i hi hx => by
    have e := h.fix i hi hx
    rw [k.fix i (Nat.lt_of_lt_of_le hi h.le.n) (by rw [(h.le.same i hi e).1]; exact hx), e]⟩

theorem BlkR.mono {K : Nat → AC → Code → Prop} {c c' : Cx} (h : c.Le c') {i : Nat} (hi : i < c.n) (hg : c'.G i = c.G i) {b : Blk} {o : Obj} (hb : BlkR K c i b o) : BlkR K c' i b o := by
  have hz := (h.same i hi hg).2
  cases b with
  | cells cs t g =>
    obtain ⟨h1, C, h2, h3, vs, rest, h4, h5, h6⟩ := hb
    exact ⟨by omega, C, h2, by omega, vs, rest, h4, VRs.mono h _ _ h5, h6⟩
  | map es =>
    obtain ⟨h1, ES, clock, h2, h3⟩ := hb
    exact ⟨by omega, ES, clock, h2, h3.mono fun x e he => ⟨RVR.mono h.M _ _ he.1, VR.mono h _ _ he.2⟩⟩
  | loop env params assign body st pend =>
    obtain ⟨h1, l, h2, h3, h4, h5, h6⟩ := hb
    exact ⟨by omega, l, h2, h3, h4, h5.mono h, h6⟩
  | dfr => exact ⟨by have := hb.1; omega, hb.2⟩
  | dead => trivial

end Go.AM
/- How the relation lasts over what the operations do to memory (own work). -/
namespace Go.AM

def upd {α : Type} (f : Nat → α) (i : Nat) (x : α) : Nat → α := fun j => if j = i then x else f j
@[simp] theorem upd_same {α : Type} (f : Nat → α) (i : Nat) (x : α) : upd f i x i = x := by simp [upd]
theorem upd_ne {α : Type} (f : Nat → α) {i j : Nat} (x : α) (h : j ≠ i) : upd f i x j = f j := by simp [upd, h]

theorem alloc_size (w : World) (o : Obj) : (w.alloc o).heap.size = w.heap.size + 1 := by show (w.heap.push o).size = _; simp
theorem alloc_old (w : World) (o : Obj) {i : Nat} (h : i < w.heap.size) : (w.alloc o).heap[i]? = w.heap[i]? := by
  show (w.heap.push o)[i]? = w.heap[i]?
  rw [Array.getElem?_push, if_neg (Nat.ne_of_lt h)]
theorem alloc_new (w : World) (o : Obj) : (w.alloc o).heap[w.heap.size]? = some o := by
  show (w.heap.push o)[w.heap.size]? = some o
  simp

section
variable {K : Nat → AC → Code → Prop} {c : Cx} {X : Fr} {h : List Blk} {w : World}

theorem getElem?_lt {α : Type} {l : List α} {i : Nat} {x : α} (h : l[i]? = some x) : i < l.length := by
  rcases Nat.lt_or_ge i l.length with h1 | h1
  · exact h1
  · rw [List.getElem?_eq_none h1] at h; cases h

theorem Rel.lt (hR : Rel K c X h w) {i : Nat} {b : Blk} (hb : h[i]? = some b) : i < c.n := by rw [← hR.len]; exact getElem?_lt hb

theorem Rel.βlt (hR : Rel K c X h w) {i : Nat} {b : Blk} (hb : h[i]? = some b) (ha : b.alive) : c.β i < w.heap.size := by
  obtain ⟨o, ho, _⟩ := hR.blk i b hb ha
  exact (Array.getElem?_eq_some_iff.1 ho).1

/-- The world has moved on in what no block holds. -/
theorem Rel.world (hR : Rel K c X h w) {w' : World} (hh : w'.heap = w.heap) : Rel K c X h w' :=
  ⟨hR.len, fun i b hb ha => by rw [hh]; exact hR.blk i b hb ha, hR.inj, hR.own, fun b o hm => by rw [hh]; exact hR.mem b o hm, fun b hb => by rw [hh]; exact hR.frm b hb, hR.res⟩

theorem Adv.drew (X : Fr) (c : Cx) (w : World) : Adv X c w c { w with drawn := w.drawn + 1 } := ⟨.refl c, fun _ _ => rfl, Nat.le_refl _, rfl, rfl, rfl, fun _ _ _ => rfl⟩

def Cx.push (c : Cx) (s z : Nat) : Cx := { c with β := upd c.β c.n s, G := upd c.G c.n 0, Z := upd c.Z c.n z, n := c.n + 1 }
theorem Cx.push_le (c : Cx) (s z : Nat) : c.Le (c.push s z) :=
  ⟨by simp [Cx.push], Msub.refl _, fun i hi => by simp [Cx.push, upd_ne _ _ (Nat.ne_of_lt hi)], fun i hi _ => by simp [Cx.push, upd_ne _ _ (Nat.ne_of_lt hi)]⟩

theorem Rel.resNe (hR : Rel K c X h w) {i j : Nat} {b : Blk} (hb : h[i]? = some b) (ha : b.alive) (hj : X.r j) : j ≠ i := by
  rintro rfl
  have := hR.res j hj
  rw [hb] at this
  cases this
  exact ha.elim
theorem Rel.resSet (hR : Rel K c X h w) {i : Nat} {b0 b : Blk} (hb : h[i]? = some b0) (ha : b0.alive) : ∀ j, X.r j → (h.set i b)[j]? = some .dead := fun j hj => by
  rw [List.getElem?_set_ne (Ne.symm (hR.resNe hb ha hj))]; exact hR.res j hj

/-- A new block. -/
theorem Rel.new (hR : Rel K c X h w) (b : Blk) (o : Obj) (z : Nat) (hb : BlkR K (c.push w.heap.size z) c.n b o) :
    Adv X c w (c.push w.heap.size z) (w.alloc o) ∧ Rel K (c.push w.heap.size z) X (h ++ [b]) (w.alloc o) := by
  have hs : ∀ i, i < c.n → (c.push w.heap.size z).β i = c.β i := fun i hi => by simp [Cx.push, upd_ne _ _ (Nat.ne_of_lt hi)]
  have hnew : (c.push w.heap.size z).β c.n = w.heap.size := by simp [Cx.push]
  have hold : ∀ i, i < w.heap.size → (w.alloc o).heap[i]? = w.heap[i]? := fun i hi => alloc_old w o hi
  refine ⟨⟨Cx.push_le _ _ _, fun b hb => hold b (hR.frm b hb).1, by rw [alloc_size]; omega, rfl, rfl, rfl, fun i hi _ => by simp [Cx.push, upd_ne _ _ (Nat.ne_of_lt hi)]⟩, ?_⟩
  have hcase : ∀ i d, (h ++ [b])[i]? = some d → (h[i]? = some d ∧ i < c.n) ∨ (i = c.n ∧ d = b) := fun i d hd => by
    rcases Nat.lt_or_ge i h.length with h1 | h1
    · rw [List.getElem?_append_left h1] at hd; exact .inl ⟨hd, by rw [← hR.len]; exact h1⟩
    · rw [List.getElem?_append_right h1] at hd
      have h2 : i - h.length = 0 := by
        have := getElem?_lt hd; simp at this; omega
      rw [h2] at hd; simp at hd
      exact .inr ⟨by rw [← hR.len]; omega, hd.symm⟩
  have hne : ∀ i d, h[i]? = some d → d.alive → c.β i ≠ w.heap.size := fun i d hd ha => Nat.ne_of_lt (hR.βlt hd ha)
  refine ⟨by simp [Cx.push, hR.len], fun i d hd ha => ?_, fun i j d e hd ha he hb' heq => ?_, fun i d hd ha => ?_, fun b' o' hm => ?_, fun b' hb' => ?_, fun b' hb' => ?_⟩
  · rcases hcase i d hd with ⟨h1, h2⟩ | ⟨rfl, rfl⟩
    · obtain ⟨o', ho', hr⟩ := hR.blk i d h1 ha
      refine ⟨o', by rw [hs i h2, hold _ (hR.βlt h1 ha)]; exact ho', hr.mono (Cx.push_le _ _ _) h2 (by simp [Cx.push, upd_ne _ _ (Nat.ne_of_lt h2)])⟩
    · exact ⟨o, by rw [hnew]; exact alloc_new w o, hb⟩
  · rcases hcase i d hd with ⟨h1, h2⟩ | ⟨rfl, rfl⟩ <;> rcases hcase j e he with ⟨h3, h4⟩ | ⟨rfl, rfl⟩
    · rw [hs i h2, hs j h4] at heq; exact hR.inj i j d e h1 ha h3 hb' heq
    · rw [hs i h2, hnew] at heq; exact absurd heq (hne i d h1 ha)
    · rw [hs j h4, hnew] at heq; exact absurd heq.symm (hne j e h3 hb')
    · rfl
  · rcases hcase i d hd with ⟨h1, h2⟩ | ⟨rfl, rfl⟩
    · rw [hs i h2]; exact hR.own i d h1 ha
    · rw [hnew]
      refine ⟨?_, fun hx => Nat.lt_irrefl _ (hR.frm _ hx).1⟩
      cases hm : c.M w.heap.size with
      | none => exact hm
      | some o' =>
        have := hR.mem _ _ hm
        simp at this
  · have hm' := hR.mem b' o' hm
    rw [hold _ (Array.getElem?_eq_some_iff.1 hm').1]; exact hm'
  · have := hR.frm b' hb'
    exact ⟨by rw [alloc_size]; omega, this.2⟩
  · rw [List.getElem?_append_left (getElem?_lt (hR.res b' hb'))]; exact hR.res b' hb'

def Cx.frz (c : Cx) (b : Nat) (o : Obj) : Cx := { c with M := upd c.M b (some o) }
theorem Cx.frz_le (c : Cx) (b : Nat) (o : Obj) (hm : c.M b = none) : c.Le (c.frz b o) :=
  ⟨Nat.le_refl _, fun b' o' h' => by
    simp only [Cx.frz, upd]
    by_cases e : b' = b
    · subst e; rw [hm] at h'; cases h'
    · rw [if_neg e]; exact h', fun _ _ => Nat.le_refl _, fun _ _ _ => ⟨rfl, rfl⟩⟩

/-- A new block that nobody will write. -/
theorem Rel.newFrozen (hR : Rel K c X h w) (o : Obj) :
    Adv X c w (c.frz w.heap.size o) (w.alloc o) ∧ Rel K (c.frz w.heap.size o) X h (w.alloc o) := by
  have hold : ∀ i, i < w.heap.size → (w.alloc o).heap[i]? = w.heap[i]? := fun i hi => alloc_old w o hi
  have hm : c.M w.heap.size = none := by
    cases hm : c.M w.heap.size with
    | none => rfl
    | some o' =>
      have := hR.mem _ _ hm
      simp at this
  have hle := Cx.frz_le c w.heap.size o hm
  refine ⟨⟨hle, fun b hb => hold b (hR.frm b hb).1, by rw [alloc_size]; omega, rfl, rfl, rfl, fun _ _ _ => rfl⟩, ?_⟩
  refine ⟨hR.len, fun i d hd ha => ?_, hR.inj, fun i d hd ha => ?_, fun b' o' hm' => ?_, fun b' hb' => ?_, hR.res⟩
  · obtain ⟨o', ho', hr⟩ := hR.blk i d hd ha
    exact ⟨o', by rw [show (c.frz w.heap.size o).β i = c.β i from rfl, hold _ (hR.βlt hd ha)]; exact ho', hr.mono hle (hR.lt hd) rfl⟩
  · have h1 := hR.own i d hd ha
    have h2 := hR.βlt hd ha
    exact ⟨by simp only [Cx.frz]; rw [upd_ne _ _ (Nat.ne_of_lt h2)]; exact h1.1, h1.2⟩
  · simp only [Cx.frz, upd] at hm'
    by_cases e : b' = w.heap.size
    · subst e; rw [if_pos rfl] at hm'; cases hm'; exact alloc_new w o
    · rw [if_neg e] at hm'
      have := hR.mem _ _ hm'
      rw [hold _ (Array.getElem?_eq_some_iff.1 this).1]; exact this
  · have := hR.frm b' hb'
    refine ⟨by rw [alloc_size]; omega, ?_⟩
    simp only [Cx.frz]; rw [upd_ne _ _ (Nat.ne_of_lt this.1)]; exact this.2

/-- A block's contents are other ones. -/
theorem Rel.upd (hR : Rel K c X h w) {i : Nat} {b0 b : Blk} (h0 : h[i]? = some b0) (ha : b0.alive) {w' : World} {o : Obj}
    (hh : ∀ k, k ≠ c.β i → w'.heap[k]? = w.heap[k]?) (ho : w'.heap[c.β i]? = some o) (hs : w'.heap.size = w.heap.size)
    (hos : w'.os = w.os) (ht : w'.tape = w.tape) (hout : w'.output = w.output) (hb : BlkR K c i b o) :
    Adv X c w c w' ∧ Rel K c X (h.set i b) w' := by
  have own := hR.own i b0 h0 ha
  have hX : ∀ k, X k → k ≠ c.β i := fun k hk e => own.2 (e ▸ hk)
  have hM : ∀ k o', c.M k = some o' → k ≠ c.β i := fun k o' hk e => by rw [e, own.1] at hk; cases hk
  refine ⟨⟨.refl c, fun k hk => hh k (hX k hk), by omega, hos, ht, hout, fun _ _ _ => rfl⟩, ?_⟩
  have hcase : ∀ j d, (h.set i b)[j]? = some d → (j = i ∧ d = b) ∨ (j ≠ i ∧ h[j]? = some d) := fun j d hd => by
    by_cases e : j = i
    · subst e
      rw [List.getElem?_set_self (getElem?_lt h0)] at hd
      exact .inl ⟨rfl, by simpa using hd.symm⟩
    · rw [List.getElem?_set_ne (fun h => e h.symm)] at hd
      exact .inr ⟨e, hd⟩
  have hal : ∀ (j : Nat) (d : Blk), (h.set i b)[j]? = some d → d.alive → ∃ d', h[j]? = some d' ∧ d'.alive := fun j d hd hda => by
    rcases hcase j d hd with ⟨rfl, rfl⟩ | ⟨_, h2⟩
    · exact ⟨b0, h0, ha⟩
    · exact ⟨d, h2, hda⟩
  refine ⟨by simp [hR.len], fun j d hd hda => ?_, fun j k d e hd hda he hea heq => ?_, fun j d hd hda => ?_, fun k o' hk => ?_, fun k hk => ?_, hR.resSet h0 ha⟩
  · rcases hcase j d hd with ⟨rfl, rfl⟩ | ⟨h1, h2⟩
    · exact ⟨o, ho, hb⟩
    · obtain ⟨o', ho', hr⟩ := hR.blk j d h2 hda
      exact ⟨o', by rw [hh _ (fun e => h1 (hR.inj j i d b0 h2 hda h0 ha e))]; exact ho', hr⟩
  · obtain ⟨d', hd', hda'⟩ := hal j d hd hda
    obtain ⟨e', he', hea'⟩ := hal k e he hea
    exact hR.inj j k d' e' hd' hda' he' hea' heq
  · obtain ⟨d', hd', hda'⟩ := hal j d hd hda
    exact hR.own j d' hd' hda'
  · rw [hh _ (hM k o' hk)]; exact hR.mem k o' hk
  · exact ⟨by rw [hs]; exact (hR.frm k hk).1, (hR.frm k hk).2⟩

/-- A block is forgotten. -/
theorem Rel.forget (hR : Rel K c X h w) (i : Nat) : Rel K c X (h.set i .dead) w := by
  have hcase : ∀ (j : Nat) (d : Blk), (h.set i .dead)[j]? = some d → d.alive → h[j]? = some d := fun j d hd ha => by
    by_cases e : j = i
    · subst e
      rcases Nat.lt_or_ge j h.length with h1 | h1
      · rw [List.getElem?_set_self h1] at hd; cases hd; exact ha.elim
      · rw [List.getElem?_eq_none (by simpa using h1)] at hd; cases hd
    · rwa [List.getElem?_set_ne (fun h => e h.symm)] at hd
  exact ⟨by simp [hR.len], fun j d hd ha => hR.blk j d (hcase j d hd ha) ha, fun j k d e hd ha he hb => hR.inj j k d e (hcase j d hd ha) ha (hcase k e he hb) hb, fun j d hd ha => hR.own j d (hcase j d hd ha) ha, hR.mem, hR.frm, fun j hj => by
    by_cases e : j = i
    · subst e; exact List.getElem?_set_self (getElem?_lt (hR.res j hj))
    · rw [List.getElem?_set_ne (Ne.symm e)]; exact hR.res j hj⟩

def Cx.regen (c : Cx) (i s z : Nat) : Cx := { c with β := AM.upd c.β i s, G := AM.upd c.G i (c.G i + 1), Z := AM.upd c.Z i z }
theorem Cx.regen_le (c : Cx) (i s z : Nat) : c.Le (c.regen i s z) :=
  ⟨Nat.le_refl _, Msub.refl _, fun j _ => by
    by_cases e : j = i
    · subst e; simp [Cx.regen]
    · simp [Cx.regen, upd_ne _ _ e], fun j _ hg => by
    by_cases e : j = i
    · subst e; simp [Cx.regen] at hg
    · simp [Cx.regen, upd_ne _ _ e]⟩

/-- A row is a new generation, in its old place (`s = c.β i`) or in a new one. -/
theorem Rel.regen (hR : Rel K c X h w) {i : Nat} {b0 b : Blk} (h0 : h[i]? = some b0) (ha : b0.alive) {w' : World} {o : Obj} (s z : Nat)
    (hh : ∀ k, k < w.heap.size → k ≠ s → w'.heap[k]? = w.heap[k]?) (ho : w'.heap[s]? = some o) (hsz : w.heap.size ≤ w'.heap.size)
    (hsn : s = c.β i ∨ w.heap.size ≤ s)
    (hos : w'.os = w.os) (ht : w'.tape = w.tape) (hout : w'.output = w.output) (hb : BlkR K (c.regen i s z) i b o) :
    Adv X c w (c.regen i s z) w' ∧ Rel K (c.regen i s z) X (h.set i b) w' := by
  have own := hR.own i b0 h0 ha
  have hlt := hR.βlt h0 ha
  have hX : ∀ k, X k → k ≠ s := fun k hk e => by
    rcases hsn with h1 | h1
    · exact own.2 (h1 ▸ e ▸ hk)
    · have := (hR.frm k hk).1; omega
  have hM : ∀ k o', c.M k = some o' → k < w.heap.size ∧ k ≠ s := fun k o' hk => by
    have h1 : k < w.heap.size := (Array.getElem?_eq_some_iff.1 (hR.mem k o' hk)).1
    refine ⟨h1, fun e => ?_⟩
    rcases hsn with h2 | h2
    · rw [e, h2, own.1] at hk; cases hk
    · omega
  have hle := Cx.regen_le c i s z
  have hβ : ∀ j, j ≠ i → (c.regen i s z).β j = c.β j := fun j hj => by simp [Cx.regen, upd_ne _ _ hj]
  have hβi : (c.regen i s z).β i = s := by simp [Cx.regen]
  have hG : ∀ j, j ≠ i → (c.regen i s z).G j = c.G j := fun j hj => by simp [Cx.regen, upd_ne _ _ hj]
  refine ⟨⟨hle, fun k hk => hh k (hR.frm k hk).1 (hX k hk), hsz, hos, ht, hout, fun j _ hx => hG j (fun e => by
    rcases hx with hx | hx
    · exact own.2 (e ▸ hx)
    · exact hR.resNe h0 ha hx e)⟩, ?_⟩
  have hcase : ∀ j d, (h.set i b)[j]? = some d → (j = i ∧ d = b) ∨ (j ≠ i ∧ h[j]? = some d) := fun j d hd => by
    by_cases e : j = i
    · subst e
      rw [List.getElem?_set_self (getElem?_lt h0)] at hd
      exact .inl ⟨rfl, by simpa using hd.symm⟩
    · rw [List.getElem?_set_ne (fun h => e h.symm)] at hd
      exact .inr ⟨e, hd⟩
  have hne : ∀ j d, j ≠ i → h[j]? = some d → d.alive → c.β j ≠ s := fun j d hj hd hda e => by
    rcases hsn with h1 | h1
    · exact hj (hR.inj j i d b0 hd hda h0 ha (e.trans h1))
    · have := hR.βlt hd hda; omega
  refine ⟨by simp [hR.len, Cx.regen], fun j d hd hda => ?_, fun j k d e hd hda he hea heq => ?_, fun j d hd hda => ?_, fun k o' hk => ?_, fun k hk => ?_, hR.resSet h0 ha⟩
  · rcases hcase j d hd with ⟨rfl, rfl⟩ | ⟨h1, h2⟩
    · exact ⟨o, by rw [hβi]; exact ho, hb⟩
    · obtain ⟨o', ho', hr⟩ := hR.blk j d h2 hda
      exact ⟨o', by rw [hβ j h1, hh _ (hR.βlt h2 hda) (hne j d h1 h2 hda)]; exact ho', hr.mono hle (hR.lt h2) (hG j h1)⟩
  · rcases hcase j d hd with ⟨rfl, rfl⟩ | ⟨h1, h2⟩ <;> rcases hcase k e he with ⟨rfl, rfl⟩ | ⟨h3, h4⟩
    · rfl
    · rw [hβi, hβ k h3] at heq; exact absurd heq.symm (hne k e h3 h4 hea)
    · rw [hβi, hβ j h1] at heq; exact absurd heq (hne j d h1 h2 hda)
    · rw [hβ j h1, hβ k h3] at heq; exact hR.inj j k d e h2 hda h4 hea heq
  · rcases hcase j d hd with ⟨rfl, rfl⟩ | ⟨h1, h2⟩
    · rw [hβi]
      refine ⟨?_, fun hx => hX s hx rfl⟩
      cases hm : c.M s with
      | none => exact hm
      | some o' => exact absurd rfl (hM s o' hm).2
    · rw [hβ j h1]; exact hR.own j d h2 hda
  · rw [hh _ (hM k o' hk).1 (hM k o' hk).2]; exact hR.mem k o' hk
  · exact ⟨Nat.lt_of_lt_of_le (hR.frm k hk).1 hsz, (hR.frm k hk).2⟩

end
end Go.AM
/- Which abstract operation stands for which operation of the model: a check that computes (own work). -/
namespace Go.AM

def litEq : Value → Value → Bool
  | .bool a, .bool b => a == b
  | .int k a, .int j b => k == j && a == b
  | .string a, .string b => a.data.toList == b.data.toList
  | .pointer none, .pointer none => true
  | .nilFunc, .nilFunc => true
  | .nilIface, .nilIface => true
  | .map none, .map none => true
  | _, _ => false

def chkRV : RV → Value → Bool
  | .lit v, w => litEq v w
  | .nil, .slice none 0 0 => true
  | _, _ => false

def chkRVs : List RV → List Value → Bool
  | [], [] => true
  | x :: xs, v :: vs => chkRV x v && chkRVs xs vs
  | _, _ => false

def chkOpd : Opd → Operand → Bool
  | .t n, .tmp m => n == m
  | .k (.fn f [] []), .func g => f == g
  | .k x, .const v => chkRV x v
  | _, _ => false

def chkOpds : List Opd → List Operand → Bool
  | [], [] => true
  | x :: xs, v :: vs => chkOpd x v && chkOpds xs vs
  | _, _ => false

def chkOO : Option Opd → Option Operand → Bool
  | none, none => true
  | some x, some y => chkOpd x y
  | _, _ => false

section
variable (P : Program)

def szT (t : TypeId) (n : Nat) : Bool := match P.info? t with | some i => i.size == n | none => false
def byT (t : TypeId) (n : Nat) : Bool := match P.info? t with | some i => i.bytes == n | none => false
def agT (t : TypeId) (b : Bool) : Bool :=
  match P.underlying t with
  | some (.struct _) | some (.array _ _) => b
  | some _ => !b
  | none => false
def zeT (t : TypeId) (z : List RV) : Bool :=
  match P.info? t with
  | some i => match i.zero with
    | some v => chkRVs z v.cells.toList
    | none => false
  | none => false
def zvT (t : TypeId) (z : RV) : Bool :=
  match P.info? t with
  | some i => match i.zero with
    | some v => chkRV z v
    | none => false
  | none => false
def slT (t e : TypeId) : Bool := match P.underlying t with | some (.slice e') => e' == e | _ => false
def slSz (t : TypeId) (n : Nat) : Bool := match P.underlying t with | some (.slice e) => szT P e n | _ => false
def arT (t : TypeId) (len sz : Nat) : Bool := match P.underlying t with | some (.array n e) => n == len && szT P e sz | _ => false
def fdT (t : TypeId) (f off : Nat) : Option TypeId :=
  match P.underlying t with
  | some (.struct fs) => match fs[f]? with
    | some g => if g.offset == off then some g.type else none
    | none => none
  | _ => none
def placeOf (t : TypeId) (i : Nat) : Option (Nat × Nat) :=
  match P.underlying t with
  | some (.array _ e) => (P.info? e).map fun ie => (i * ie.size, ie.size)
  | some (.struct fs) => match fs.toList.mapM (fun f => (P.info? f.type).map fun j => (f.offset, j.size)) with
    | some places => places.toArray[i]?
    | none => none
  | _ => none
def bldT (t : TypeId) : Bool :=
  match P.underlying t with
  | some (.array _ e) => (P.info? e).isSome
  | some (.struct fs) => (fs.toList.mapM (fun f => (P.info? f.type).map fun j => (f.offset, j.size))).isSome
  | _ => false
def chkParts (t : TypeId) : List (Nat × Nat × Opd) → List (Nat × Operand) → Bool
  | [], [] => true
  | (off, n, x) :: ps, (i, y) :: qs => (match placeOf P t i with | some (o, s) => o == off && s == n | none => false) && chkOpd x y && chkParts t ps qs
  | _, _ => false
def chkSlit (sz : Nat) : List (Nat × Nat × Opd) → List (Nat × Operand) → Bool
  | [], [] => true
  | (off, n, x) :: ps, (i, y) :: qs => off == i * sz && n == sz && chkOpd x y && chkSlit sz ps qs
  | _, _ => false
def ckT (t : TypeId) : CK → Bool
  | .i => match P.underlying t with | some (.int _) => true | _ => false
  | .s => match P.underlying t with | some .string => true | _ => false
  | .b => match P.underlying t with | some .bool => true | _ => false
/-- A struct of plain numbers, strings and bools, one cell each. -/
def plainFields : List CK → List Field → Nat → Bool
  | [], [], _ => true
  | k :: ks, f :: fs, o => f.offset == o && f.name != "_" && ckT P f.type k && plainFields ks fs (o + 1)
  | _, _, _ => false
def plainStruct (t : TypeId) (ks : List CK) : Bool :=
  match P.underlying t with
  | some (.struct fs) => plainFields P ks fs.toList 0 && !P.stoodInHeld t && !P.eqGuardType P.depth t
  | _ => false
/-- A key's type: a number, or an array of numbers. -/
def keyT (t : TypeId) : Option Nat → Bool
  | none => match P.underlying t with | some (.int _) => true | _ => false
  | some n => match P.underlying t with | some (.array m e) => m == n && szT P e 1 && (match P.underlying e with | some (.int _) => true | _ => false) | _ => false

def isInt (t : TypeId) : Bool := match P.underlying t with | some (.int _) => true | _ => false
def intK (t : TypeId) (k : IntKind) : Bool := match P.underlying t with | some (.int j) => j == k | _ => false

/-- A call of a builtin; of a function value; a deferred call. -/
def bltOf : Op → Option (Builtin × List Operand × List TypeId)
  | .call c => match c.callee with
    | .builtin b => some (b, c.args.toList, c.argTypes.toList)
    | _ => none
  | _ => none
def fnOf : Op → Option (Operand × List Operand)
  | .call c => match c.callee with
    | .value f => some (f, c.args.toList)
    | _ => none
  | _ => none
def dfOf : Op → Option (Operand × List Operand)
  | .defer c => match c.callee with
    | .value f => some (f, c.args.toList)
    | _ => none
  | _ => none

def chkOp : AOp → Op → Bool
  | .mov x, o => match o with | .move y => chkOpd x y | .assign y => chkOpd x y | _ => false
  | .pick c a b, o => match o with | .pick c' a' b' => chkOpd c c' && chkOpd a a' && chkOpd b b' | _ => false
  | .alloc t z, o => match o with | .alloc t' => t == t' && zeT P t z | _ => false
  | .slot _ t z, o => match o with | .alloc t' => t == t' && zeT P t z | _ => false
  | .box t x, o => match o with | .box t' y => t == t' && chkOpd x y | _ => false
  | .build z ps, o => match o with | .build t parts => zeT P t z && bldT P t && chkParts P t ps parts.toList | _ => false
  | .slit t z len sz ps, o => match o with
    | .buildSlice t' len' parts => slT P t' t && len == len' && szT P t sz && zeT P t z && z.length == sz && chkSlit sz ps parts.toList
    | _ => false
  | .load n ag a, o => match o with | .load t y => szT P t n && agT P t ag && chkOpd a y | _ => false
  | .store n a v, o => match o with | .store t y u => szT P t n && chkOpd a y && chkOpd v u | _ => false
  | .nilc x, o => match o with | .nilCheck y => chkOpd x y | _ => false
  | .bin op x y, o => match o with
    | .binOp op' t x' y' _ => op == op' && (match P.underlying t with | some (.int _) | some .string => true | _ => false) && chkOpd x x' && chkOpd y y'
    | _ => false
  | .beq neg x y, o => match o with
    | .binOp op t x' y' _ => op == (if neg then .neq else .eql) && (match P.underlying t with | some .bool => true | _ => false) && chkOpd x x' && chkOpd y y'
    | _ => false
  | .eqs neg ks x y, o => match o with
    | .binOp op t x' y' _ => op == (if neg then .neq else .eql) && plainStruct P t ks && chkOpd x x' && chkOpd y y'
    | _ => false
  | .eqn neg x, o => match o with
    | .binOp op t x' (.const .nilIface) _ => op == (if neg then .neq else .eql) && (match P.underlying t with | some (.interface _) => true | _ => false) && chkOpd x x'
    | _ => false
  | .eqnl neg x, o => match o with
    | .binOp op t x' (.const (.slice none 0 0)) _ => op == (if neg then .neq else .eql) && (match P.underlying t with | some (.slice _) => true | _ => false) && chkOpd x x'
    | _ => false
  | .not x, o => match o with | .unOp .not _ y => chkOpd x y | _ => false
  | .conv k x, o => match o with | .convert s d y => isInt P s && intK P d k && chkOpd x y | _ => false
  | .s2b x, o => match o with
    | .convert s d y => (match P.underlying s with | some .string => true | _ => false) && (match P.underlying d with | some (.slice e) => intK P e .u8 | _ => false) && chkOpd x y
    | _ => false
  | .mkfn f a b, o => match o with | .makeFunc (.func g) a' b' => f == g && chkOpds a a'.toList && chkOpds b b'.toList | _ => false
  | .slc sz x lo hi mx, o => match o with
    | .slice t y l h m => slSz P t sz && chkOpd x y && chkOO lo l && chkOO hi h && chkOO mx m
    | _ => false
  | .slcA n sz x lo hi, o => match o with
    | .slice t y l h none => arT P t n sz && chkOpd x y && chkOO lo l && chkOO hi h
    | _ => false
  | .padd off x, o => match o with
    | .fieldAddr t y f => (match fdT P t f off with | some u => (match P.info? u with | some i => i.size != 0 | none => false) | none => false) && chkOpd x y
    | _ => false
  | .fld off n ag x, o => match o with
    | .field t y f => (match fdT P t f off with | some u => szT P u n && agT P u ag | none => false) && chkOpd x y
    | _ => false
  | .idxS sz x i, o => match o with | .indexAddr t y j => slSz P t sz && chkOpd x y && chkOpd i j | _ => false
  | .idxA len sz x i, o => match o with | .indexAddr t y j => arT P t len sz && chkOpd x y && chkOpd i j | _ => false
  | .idxV len sz ag x i, o => match o with
    | .index t y j => (match P.underlying t with | some (.array n e) => n == len && szT P e sz && agT P e ag | _ => false) && chkOpd x y && chkOpd i j
    | _ => false
  | .idxT x i, o => match o with | .index t y j => (match P.underlying t with | some .string => true | _ => false) && chkOpd x y && chkOpd i j | _ => false
  | .look kn z ok m k, o => match o with
    | .lookup t y j ok' => ok == ok' && (match P.underlying t with | some (.map kt e) => keyT P kt kn && zvT P e z | _ => false) && chkOpd m y && chkOpd k j
    | _ => false
  | .mupd kn m k v, o => match o with | .mapUpdate t y j u => (match P.underlying t with | some (.map kt _) => keyT P kt kn | _ => false) && chkOpd m y && chkOpd k j && chkOpd v u | _ => false
  | .mkmap, o => match o with | .makeMap _ none => true | _ => false
  | .mksl t z sz bytes len cap, o => match o with
    | .makeSlice t' l c => slT P t' t && zeT P t z && z.length == sz && szT P t sz && byT P t bytes && chkOpd len l && chkOpd cap c
    | _ => false
  | .ext i x, o => match o with | .extract y j => i == j && chkOpd x y | _ => false
  | .app t z sz bytes x y, o => match bltOf o with
    | some (.append, [x', y'], [t1, t2]) => slT P t1 t && t2 == t1 && szT P t sz && byT P t bytes && zeT P t z && z.length == sz && sz != 0 && chkOpd x x' && chkOpd y y'
    | _ => false
  | .lenS x, o => match bltOf o with
    | some (.len, [x'], [t]) => (match P.underlying t with | some (.slice _) => true | _ => false) && chkOpd x x'
    | _ => false
  | .lenT x, o => match bltOf o with
    | some (.len, [x'], [t]) => (match P.underlying t with | some .string => true | _ => false) && chkOpd x x'
    | _ => false
  | .lenM x, o => match bltOf o with
    | some (.len, [x'], [t]) => (match P.underlying t with | some (.map _ _) => true | _ => false) && chkOpd x x'
    | _ => false
  | .min x y, o => match bltOf o with | some (.min, [x', y'], _) => chkOpd x x' && chkOpd y y' | _ => false
  | .max x y, o => match bltOf o with | some (.max, [x', y'], _) => chkOpd x x' && chkOpd y y' | _ => false
  | .cpy sz d s, o => match bltOf o with | some (.copy, [d', s'], [t1, _]) => slSz P t1 sz && chkOpd d d' && chkOpd s s' | _ => false
  | .clr z x, o => match bltOf o with
    | some (.clear, [x'], [t]) => (match P.underlying t with | some (.slice e) => zeT P e z | _ => false) && chkOpd x x'
    | _ => false
  | .mkif t x, o => match o with | .makeInterface t' y => t == t' && (match P.underlying t with | some (.interface _) | none => false | _ => true) && chkOpd x y | _ => false
  | .tass t z x, o => match o with
    | .typeAssert y _ t' true => t == t' && (match P.underlying t with | some (.interface _) | none => false | _ => true) && (match P.info? t with | some i => (match i.zero with | some (.agg cs) => (match z with | .agg [] => cs.size == 0 | _ => false) | some v => chkRV z v | none => false) | none => false) && chkOpd x y
    | _ => false
  | .call f args, o => match fnOf o with | some (g, args') => chkOpd f g && chkOpds args args' | _ => false
  | .recov, o => match bltOf o with | some (.recover, [], _) => true | _ => false
  | .pan x, o => match o with | .panic y => chkOpd x y | _ => false
  | .defr f args, o => match dfOf o with | some (g, args') => chkOpd f g && chkOpds args args' | _ => false
end

/-! ### what the check says -/
theorem bltOf_ok {op : Op} {b : Builtin} {as : List Operand} {ts : List TypeId} (h : bltOf op = some (b, as, ts)) : op = .call { callee := .builtin b, args := as.toArray, argTypes := ts.toArray } := by
  cases op <;> simp only [bltOf] at h <;> try (cases h; done)
  rename_i c
  obtain ⟨cal, args, ats⟩ := c
  cases cal <;> simp at h
  obtain ⟨rfl, rfl, rfl⟩ := h
  simp
theorem fnOf_ok {op : Op} {f : Operand} {as : List Operand} (h : fnOf op = some (f, as)) : ∃ ts, op = .call { callee := .value f, args := as.toArray, argTypes := ts } := by
  cases op <;> simp only [fnOf] at h <;> try (cases h; done)
  rename_i c
  obtain ⟨cal, args, ats⟩ := c
  cases cal <;> simp at h
  obtain ⟨rfl, rfl⟩ := h
  exact ⟨ats, by simp⟩
theorem dfOf_ok {op : Op} {f : Operand} {as : List Operand} (h : dfOf op = some (f, as)) : ∃ ts, op = .defer { callee := .value f, args := as.toArray, argTypes := ts } := by
  cases op <;> simp only [dfOf] at h <;> try (cases h; done)
  rename_i c
  obtain ⟨cal, args, ats⟩ := c
  cases cal <;> simp at h
  obtain ⟨rfl, rfl⟩ := h
  exact ⟨ats, by simp⟩

theorem litEq_ok {a b : Value} (h : litEq a b = true) : b = a := by
  unfold litEq at h
  split at h <;> try (first | rfl | cases h)
  · simp at h; rw [h]
  · simp at h; rw [h.1, h.2]
  · rename_i x y
    simp at h
    congr 1
    cases x; cases y
    simp_all

theorem chkRV_ok {M : Nat → Option Obj} {x : RV} {v : Value} (h : chkRV x v = true) : RVR M x v := by
  unfold chkRV at h
  split at h
  · simp only [RVR]; exact litEq_ok h
  · rfl
  · cases h

theorem chkRVs_ok {M : Nat → Option Obj} : ∀ {xs : List RV} {vs : List Value}, chkRVs xs vs = true → RVRs M xs vs
  | [], [], _ => trivial
  | [], _ :: _, h => by simp [chkRVs] at h
  | _ :: _, [], h => by simp [chkRVs] at h
  | x :: xs, v :: vs, h => by
    simp only [chkRVs, Bool.and_eq_true] at h
    exact ⟨chkRV_ok h.1, chkRVs_ok h.2⟩

theorem litEq_one {a b : Value} (h : litEq a b = true) : b.oneCell' = true := by
  unfold litEq at h
  split at h <;> first | rfl | cases h

theorem chkRV_one {x : RV} {v : Value} (h : chkRV x v = true) : v.oneCell' = true := by
  unfold chkRV at h
  split at h
  · exact litEq_one h
  · rfl
  · cases h

theorem chkRVs_ones : ∀ {xs : List RV} {vs : List Value}, chkRVs xs vs = true → Ones vs
  | [], [], _ => fun _ h => by cases h
  | [], _ :: _, h => by simp [chkRVs] at h
  | _ :: _, [], h => by simp [chkRVs] at h
  | x :: xs, v :: vs, h => by
    simp only [chkRVs, Bool.and_eq_true] at h
    intro u hu
    rcases List.mem_cons.1 hu with rfl | hu
    · exact chkRV_one h.1
    · exact chkRVs_ones h.2 u hu

/-- An operand's value. -/
def rho (ts : Array Value) : Operand → Value
  | .tmp t => ts.getD t undef
  | .const v => v
  | .global g => .pointer (some ⟨g, 0, none⟩)
  | .func f => .func (.func f) #[] #[]

theorem chkOpd_ok {c : Cx} {e : Env} {ts : Array Value} (hE : EnvR c e ts) {x : Opd} {y : Operand} (h : chkOpd x y = true) : VR c (ev e x) (rho ts y) := by
  unfold chkOpd at h
  split at h
  · simp at h; subst h; exact hE _
  · simp at h; subst h
    simp only [ev, rho, VR, RVR]
    exact ⟨[], [], rfl, trivial, trivial⟩
  · simp only [ev, rho, VR]; exact chkRV_ok h
  · cases h

theorem chkOpds_ok {c : Cx} {e : Env} {ts : Array Value} (hE : EnvR c e ts) : ∀ {xs : List Opd} {ys : List Operand}, chkOpds xs ys = true → VRs c (evs e xs) (ys.map (rho ts))
  | [], [], _ => trivial
  | [], _ :: _, h => by simp [chkOpds] at h
  | _ :: _, [], h => by simp [chkOpds] at h
  | x :: xs, y :: ys, h => by
    simp only [chkOpds, Bool.and_eq_true] at h
    exact ⟨chkOpd_ok hE h.1, chkOpds_ok hE h.2⟩

section
variable {P : Program}
theorem szT_ok {t n : Nat} (h : szT P t n = true) (w : World) : (sizeOf t).run P w = .ok n w := by
  unfold szT at h
  cases hi : P.info? t with
  | none => simp [hi] at h
  | some i => simp [hi] at h; simp [sizeOf, typeInfo, hi, h]
theorem szT_info {t n : Nat} (h : szT P t n = true) : ∃ i, P.info? t = some i ∧ i.size = n := by
  unfold szT at h
  cases hi : P.info? t with
  | none => simp [hi] at h
  | some i => simp [hi] at h; exact ⟨i, rfl, h⟩
theorem byT_info {t n : Nat} {i : TypeInfo} (h : byT P t n = true) (hi : P.info? t = some i) : i.bytes = n := by
  unfold byT at h
  simpa [hi] using h
theorem agT_ok {t : Nat} {b : Bool} (h : agT P t b = true) (w : World) : (isAgg t).run P w = .ok b w := by
  unfold agT at h
  cases hd : P.underlying t with
  | none => simp [hd] at h
  | some d => cases d <;> simp_all [isAgg, run_underlying hd]
theorem zeT_info {t : Nat} {z : List RV} (h : zeT P t z = true) : ∃ i v, P.info? t = some i ∧ i.zero = some v ∧ chkRVs z v.cells.toList = true := by
  unfold zeT at h
  cases hi : P.info? t with
  | none => simp [hi] at h
  | some i =>
    cases hz : i.zero with
    | none => simp [hi, hz] at h
    | some v => exact ⟨i, v, rfl, hz, by simpa [hi, hz] using h⟩
theorem slT_ok {t e : Nat} (h : slT P t e = true) : P.underlying t = some (.slice e) := by
  unfold slT at h
  split at h
  · rename_i e' he; simp at h; subst h; exact he
  · cases h
theorem slSz_ok {t n : Nat} (h : slSz P t n = true) : ∃ e, P.underlying t = some (.slice e) ∧ szT P e n = true := by
  unfold slSz at h
  split at h
  · rename_i e he; exact ⟨e, he, h⟩
  · cases h
theorem arT_ok {t n s : Nat} (h : arT P t n s = true) : ∃ e, P.underlying t = some (.array n e) ∧ szT P e s = true := by
  unfold arT at h
  split at h
  · rename_i m e he
    simp only [Bool.and_eq_true, beq_iff_eq] at h
    obtain ⟨rfl, h2⟩ := h
    exact ⟨e, he, h2⟩
  · cases h
end
end Go.AM
/- Each operation of the abstract machine is borne out by the model's (own work), first part. -/
namespace Go.AM

def NextR (c : Cx) (v : AV) (nx : Next) : Prop := (∃ val, nx = .value val ∧ VR c v val) ∨ (nx = .skip ∧ v = .dead)

/-- The operation goes through, and what it comes to is what the abstract one says. -/
def Done (P : Program) (K : Nat → AC → Code → Prop) (c : Cx) (X : Fr) (w : World) (s : Sem Next) (v : AV) (h' : List Blk) : Prop :=
  ∃ c' w' nx, s.run P w = .ok nx w' ∧ NextR c' v nx ∧ Adv X c w c' w' ∧ Rel K c' X h' w'

section
variable {P : Program} {K : Nat → AC → Code → Prop} {c : Cx} {X : Fr} {h : List Blk} {w : World} {e : Env} {ts : Array Value}

theorem Done.pure (hR : Rel K c X h w) {v : AV} {val : Value} {s : Sem Next} (hs : s.run P w = .ok (.value val) w) (hv : VR c v val) : Done P K c X w s v h :=
  ⟨c, w, _, hs, .inl ⟨val, rfl, hv⟩, Adv.refl X c w, hR⟩

theorem bool?_ok {v : AV} {b : Bool} {val : Value} (h : v.bool? = some b) (hv : VR c v val) : val = .bool b := by
  unfold AV.bool? at h
  split at h
  · simp at h; subst h; exact hv
  · cases h
theorem int?_ok {v : AV} {n : Int} {val : Value} (h : v.int? = some n) (hv : VR c v val) : ∃ k, val = .int k n := by
  unfold AV.int? at h
  split at h
  · simp at h; subst h; exact ⟨_, hv⟩
  · cases h

theorem rs_ok {M : Nat → Option Obj} {c : Cx} (hM : c.M = M) : ∀ {xs : List RV} {vs : List Value}, RVRs M xs vs → VRs c (rs xs) vs
  | [], [], _ => trivial
  | [], _ :: _, h => h.elim
  | _ :: _, [], h => h.elim
  | x :: xs, v :: vs, h => ⟨by subst hM; exact h.1, rs_ok hM h.2⟩

theorem allR_ok : ∀ {xs : List AV} {rs' : List RV}, allR xs = some rs' → xs = rs rs'
  | [], rs', h => by simp [allR] at h; subst h; rfl
  | x :: xs, rs', h => by
    simp only [allR] at h
    cases x <;> simp only [AV.toR] at h <;> try (cases h; done)
    rename_i y
    cases hx : allR xs with
    | none => simp [hx] at h
    | some l => simp [hx] at h; subst h; rw [allR_ok hx]; rfl

theorem rs_back {c : Cx} : ∀ {xs : List RV} {vs : List Value}, VRs c (rs xs) vs → RVRs c.M xs vs
  | [], [], _ => trivial
  | [], _ :: _, h => h.elim
  | _ :: _, [], h => h.elim
  | x :: xs, v :: vs, h => ⟨h.1, rs_back h.2⟩

theorem mkAgg_ok {cs : List AV} {vs : List Value} (hv : VRs c cs vs) (h1 : Ones vs) : VR c (mkAgg cs) (.agg vs.toArray) := by
  unfold mkAgg
  cases ha : allR cs with
  | none => simp only [VR]; exact ⟨vs, rfl, hv, h1⟩
  | some l =>
    simp only [VR, RVR]
    rw [allR_ok ha] at hv
    exact ⟨vs, rfl, rs_back hv, h1⟩

/-- A value's cells. -/
theorem cells_ok {v : AV} {val : Value} (ho : okV v = true) (hv : VR c v val) : VRs c v.cells val.cells.toList ∧ Ones val.cells.toList := by
  have single : ∀ {v : AV} {val : Value}, val.oneCell' = true → VR c v val → VRs c [v] val.cells.toList ∧ Ones val.cells.toList := by
    intro v val h1 hv
    have e : val.cells = #[val] := by cases val <;> first | rfl | cases h1
    rw [e]
    exact ⟨⟨hv, trivial⟩, fun u hu => by simp at hu; subst hu; exact h1⟩
  cases v with
  | r x =>
    cases x with
    | agg cs =>
      simp only [VR, RVR] at hv
      obtain ⟨vs, rfl, h2, h3⟩ := hv
      exact ⟨by simpa [AV.cells, Value.cells] using rs_ok rfl h2, by simpa [Value.cells] using h3⟩
    | lit y =>
      have : val = y := hv
      subst this
      exact single (by simpa [okV, ok1] using ho) hv
    | ptr cs => have h2 := hv; simp only [VR, RVR] at h2; obtain ⟨b, o, vs, rfl, _⟩ := h2; exact single rfl hv
    | sl cs len cap => have h2 := hv; simp only [VR, RVR] at h2; obtain ⟨a, k, vs, rfl, _⟩ := h2; exact single rfl hv
    | nil => have h2 := hv; simp only [VR, RVR] at h2; subst h2; exact single rfl hv
    | fn f a b => have h2 := hv; simp only [VR, RVR] at h2; obtain ⟨vs, us, rfl, _⟩ := h2; exact single rfl hv
  | agg cs =>
    simp only [VR] at hv
    obtain ⟨vs, rfl, h2, h3⟩ := hv
    exact ⟨by simpa [AV.cells, Value.cells] using h2, by simpa [Value.cells] using h3⟩
  | own i g o => have h2 := hv; simp only [VR] at h2; obtain ⟨_, _, ⟨a, rfl⟩, _⟩ := h2; exact single rfl hv
  | osl i g o len sz cap => have h2 := hv; simp only [VR] at h2; obtain ⟨_, _, a, k, rfl, _⟩ := h2; exact single rfl hv
  | tup cs => simp [okV, ok1] at ho
  | dead => simp [okV, ok1] at ho
  | fn f a b => have h2 := hv; simp only [VR] at h2; obtain ⟨vs, us, rfl, _⟩ := h2; exact single rfl hv
  | yld i => have h2 := hv; simp only [VR] at h2; obtain ⟨_, l, rfl, _⟩ := h2; exact single rfl hv
  | omap i => have h2 := hv; simp only [VR] at h2; obtain ⟨_, l, rfl, _⟩ := h2; exact single rfl hv

/-! ### values alone -/
theorem snd_mov {x : Opd} {o : Oper} (hR : Rel K c X h w) (hE : EnvR c e ts) (hc : chkOp P (.mov x) o.op = true) : Done P K c X w (execOp (rho ts) o) (ev e x) h := by
  cases ho : o.op <;> simp only [ho, chkOp] at hc <;> try (cases hc; done)
  all_goals exact Done.pure hR (by simp [execOp, ho]) (chkOpd_ok hE hc)

theorem snd_pick {x a b : Opd} {o : Oper} {t : Bool} (hR : Rel K c X h w) (hE : EnvR c e ts) (hc : chkOp P (.pick x a b) o.op = true) (ht : (ev e x).bool? = some t) :
    Done P K c X w (execOp (rho ts) o) (if t then ev e a else ev e b) h := by
  cases ho : o.op <;> simp only [ho, chkOp] at hc <;> try (cases hc; done)
  rename_i x' a' b'
  simp only [Bool.and_eq_true] at hc
  have hb := bool?_ok ht (chkOpd_ok hE hc.1.1)
  refine Done.pure hR (val := if t then rho ts a' else rho ts b') ?_ ?_
  · simp [execOp, ho, hb, asBool]
  · cases t
    · exact chkOpd_ok hE hc.2
    · exact chkOpd_ok hE hc.1.2

theorem snd_not {x : Opd} {o : Oper} {t : Bool} (hR : Rel K c X h w) (hE : EnvR c e ts) (hc : chkOp P (.not x) o.op = true) (ht : (ev e x).bool? = some t) :
    Done P K c X w (execOp (rho ts) o) (.r (.lit (.bool !t))) h := by
  cases ho : o.op <;> simp only [ho, chkOp] at hc <;> try (cases hc; done)
  rename_i op xt y
  cases op <;> simp only at hc <;> try (cases hc; done)
  have hb := bool?_ok ht (chkOpd_ok hE hc)
  exact Done.pure hR (val := .bool !t) (by simp [execOp, ho, hb, Op.unary]) rfl

theorem snd_conv {k : IntKind} {x : Opd} {o : Oper} {n : Int} (hR : Rel K c X h w) (hE : EnvR c e ts) (hc : chkOp P (.conv k x) o.op = true) (ht : (ev e x).int? = some n) :
    Done P K c X w (execOp (rho ts) o) (.r (.lit (.int k (k.wrap n)))) h := by
  cases ho : o.op <;> simp only [ho, chkOp] at hc <;> try (cases hc; done)
  rename_i s d y
  simp only [Bool.and_eq_true] at hc
  obtain ⟨⟨h1, h2⟩, h3⟩ := hc
  obtain ⟨k', hb⟩ := int?_ok ht (chkOpd_ok hE h3)
  unfold isInt at h1
  unfold intK at h2
  split at h1 <;> try (cases h1; done)
  rename_i ks hs
  split at h2 <;> try (cases h2; done)
  rename_i kd hd
  simp at h2; subst h2
  exact Done.pure hR (val := .int kd (kd.wrap n)) (by simp [execOp, ho, hb, convert, run_underlying hs, run_underlying hd, Conv.intToInt]) rfl

theorem snd_ext {i : Nat} {x : Opd} {o : Oper} {vs : List AV} {v : AV} (hR : Rel K c X h w) (hE : EnvR c e ts) (hc : chkOp P (.ext i x) o.op = true) (hx : ev e x = .tup vs) (hv : vs[i]? = some v) :
    Done P K c X w (execOp (rho ts) o) v h := by
  cases ho : o.op <;> simp only [ho, chkOp] at hc <;> try (cases hc; done)
  rename_i y j
  simp only [Bool.and_eq_true, beq_iff_eq] at hc
  obtain ⟨rfl, h2⟩ := hc
  have h3 := chkOpd_ok hE h2
  rw [hx] at h3
  simp only [VR] at h3
  obtain ⟨us, h4, h5⟩ := h3
  obtain ⟨u, hu, hr⟩ := (vrs_iff.1 h5).get hv
  exact Done.pure hR (val := u) (by simp [execOp, ho, h4, Instr.extract, hu]) hr

theorem snd_mkif {t : TypeId} {x : Opd} {o : Oper} {y : Value} (hR : Rel K c X h w) (hE : EnvR c e ts) (hc : chkOp P (.mkif t x) o.op = true) (hx : ∀ val, VR c (ev e x) val → val = y) :
    Done P K c X w (execOp (rho ts) o) (.r (.lit (.iface t y))) h := by
  cases ho : o.op <;> simp only [ho, chkOp] at hc <;> try (cases hc; done)
  rename_i t' z
  simp only [Bool.and_eq_true, beq_iff_eq] at hc
  obtain ⟨⟨rfl, h1⟩, h2⟩ := hc
  have h3 := hx _ (chkOpd_ok hE h2)
  refine Done.pure hR (val := .iface t y) ?_ rfl
  cases hd : P.underlying t with
  | none => simp [hd] at h1
  | some d => cases d <;> simp_all [execOp, Instr.makeInterface, run_underlying hd]

theorem snd_mkfn {f : FuncId} {a b : List Opd} {o : Oper} (hR : Rel K c X h w) (hE : EnvR c e ts) (hc : chkOp P (.mkfn f a b) o.op = true) :
    Done P K c X w (execOp (rho ts) o) (.fn f (evs e a) (evs e b)) h ∧ ∀ a' b', allR (evs e a) = some a' → allR (evs e b) = some b' → Done P K c X w (execOp (rho ts) o) (.r (.fn f a' b')) h := by
  cases ho : o.op <;> simp only [ho, chkOp] at hc <;> try (cases hc; done)
  rename_i g a1 b1
  cases g <;> simp only at hc <;> try (cases hc; done)
  simp only [Bool.and_eq_true, beq_iff_eq] at hc
  obtain ⟨⟨rfl, h1⟩, h2⟩ := hc
  have k1 := chkOpds_ok hE h1
  have k2 := chkOpds_ok hE h2
  have hrun : (execOp (rho ts) o).run P w = .ok (.value (.func (.func f) (a1.toList.map (rho ts)).toArray (b1.toList.map (rho ts)).toArray)) w := by
    simp [execOp, ho, Instr.makeFunc]
    constructor <;> (apply Array.ext'; simp)
  refine ⟨Done.pure hR hrun (by simp only [VR]; exact ⟨_, _, rfl, k1, k2⟩), fun a' b' ha hb => Done.pure hR hrun ?_⟩
  rw [allR_ok ha] at k1
  rw [allR_ok hb] at k2
  simp only [VR, RVR]
  exact ⟨_, _, rfl, rs_back k1, rs_back k2⟩

end
end Go.AM
/- Each operation of the abstract machine is borne out by the model's (own work), second part: comparisons, addresses, slices. -/
namespace Go.AM
section
variable {P : Program} {K : Nat → AC → Code → Prop} {c : Cx} {X : Fr} {h : List Blk} {w : World} {e : Env} {ts : Array Value}

theorem run_eqGuard_lit (op : BinOp) (t : TypeId) (x y : Operand) (a b : Value) (h : (∀ cs, a ≠ .agg cs) ∧ a ≠ .nilIface) : (eqGuard op t x y a b).run P w = .ok () w := by
  unfold eqGuard
  cases op <;> first
    | rfl
    | (cases a <;> first | rfl | (exact absurd rfl (h.1 _)) | (exact absurd rfl h.2) | (cases b <;> rfl))

theorem run_binL {op : BinOp} {t : TypeId} {a b v : Value} (hv : binL op a b = some v) : (binOp op t a b).run P w = .ok v w := by
  unfold binL at hv
  split at hv
  · rename_i k p j q
    cases op <;> simp only at hv
    case shl =>
      split at hv
      · cases hv
      · rename_i hq
        cases hv
        simp [binOp, Op.shift, hq, Nat.min_def]
    case shr => cases hv
    all_goals
      split at hv
      · rename_i hk
        subst hk
        first
          | (cases hv; done)
          | (split at hv
             · cases hv
             · rename_i hq; cases hv; simp [binOp, Op.intDiv, hq])
          | (cases hv; simp [binOp, Op.intArith, Op.intCmp])
      · cases hv
  · rename_i p q
    cases op <;> simp only at hv <;> try (cases hv; done)
    case add =>
      split at hv
      · rename_i hs
        cases hv
        have : ¬ (((p.size + q.size : Nat) : Int) > IntKind.i64.max) := by
          have : IntKind.i64.max = 9223372036854775807 := by rfl
          omega
        simp only [binOp, Op.stringOp, if_neg this]; rfl
      · cases hv
    all_goals (cases hv; simp [binOp, Op.stringOp])
  · cases hv

theorem binL_plain {op : BinOp} {a b v : Value} (hv : binL op a b = some v) : (∀ cs, a ≠ .agg cs) ∧ a ≠ .nilIface := by
  refine ⟨fun cs e => ?_, fun e => ?_⟩ <;> (subst e; cases b <;> simp [binL] at hv)

theorem snd_bin {op : BinOp} {x y : Opd} {o : Oper} {a b v : Value} (hR : Rel K c X h w) (hE : EnvR c e ts) (hc : chkOp P (.bin op x y) o.op = true)
    (hx : ev e x = .r (.lit a)) (hy : ev e y = .r (.lit b)) (hv : binL op a b = some v) : Done P K c X w (execOp (rho ts) o) (.r (.lit v)) h := by
  cases ho : o.op <;> simp only [ho, chkOp] at hc <;> try (cases hc; done)
  rename_i op' t x' y' yt
  simp only [Bool.and_eq_true, beq_iff_eq] at hc
  obtain ⟨⟨⟨rfl, ht⟩, h1⟩, h2⟩ := hc
  have k1 := chkOpd_ok hE h1
  have k2 := chkOpd_ok hE h2
  rw [hx] at k1
  rw [hy] at k2
  have k1' : rho ts x' = a := k1
  have k2' : rho ts y' = b := k2
  refine Done.pure hR (val := v) ?_ rfl
  simp [execOp, ho, k1', k2', run_eqGuard_lit op t x' y' a b (binL_plain hv), run_binL hv]

theorem snd_beq {neg : Bool} {x y : Opd} {o : Oper} {a b : Bool} (hR : Rel K c X h w) (hE : EnvR c e ts) (hc : chkOp P (.beq neg x y) o.op = true)
    (hx : (ev e x).bool? = some a) (hy : (ev e y).bool? = some b) : Done P K c X w (execOp (rho ts) o) (.r (.lit (.bool (if neg then !(a == b) else a == b)))) h := by
  cases ho : o.op <;> simp only [ho, chkOp] at hc <;> try (cases hc; done)
  rename_i op t x' y' yt
  simp only [Bool.and_eq_true, beq_iff_eq] at hc
  obtain ⟨⟨⟨hop, ht⟩, h1⟩, h2⟩ := hc
  have k1 := bool?_ok hx (chkOpd_ok hE h1)
  have k2 := bool?_ok hy (chkOpd_ok hE h2)
  split at ht <;> try (cases ht; done)
  rename_i hd
  refine Done.pure hR (val := .bool (if neg then !(a == b) else a == b)) ?_ rfl
  have hg := run_eqGuard_lit (P := P) (w := w) op t x' y' (.bool a) (.bool b) ⟨fun cs e => (by cases e), fun e => (by cases e)⟩
  cases neg <;> simp only [Bool.false_eq_true, if_false, if_true] at hop ⊢ <;> subst hop
  · simp [execOp, ho, k1, k2, hg, run_eql_bool w t a b hd]
  · simp [execOp, ho, k1, k2, hg, run_neq_bool w t a b hd]

theorem run_ckEq {M : Nat → Option Obj} {k : CK} {a b : RV} {u v : Value} {t : TypeId} {p : Bool} (d : Nat) (hk : ckT P t k = true) (ha : RVR M a u) (hb : RVR M b v) (h : rvEq k a b = some p) :
    (Op.equalIn (d + 1) t u v).run P w = .ok p w := by
  unfold rvEq at h
  split at h
  · split at h <;> try (cases h; done)
    rename_i k m j n hkj
    subst hkj
    simp only [RVR] at ha hb
    subst ha hb
    cases h
    simp only [ckT] at hk
    split at hk <;> try (cases hk; done)
    rename_i hd; exact run_equalIn_int w d _ _ _ _ _ hd
  · simp only [RVR] at ha hb
    subst ha hb
    cases h
    simp only [ckT] at hk
    split at hk <;> try (cases hk; done)
    rename_i hd; exact run_equalIn_bool' w d _ _ _ hd
  · simp only [RVR] at ha hb
    subst ha hb
    cases h
    simp only [ckT] at hk
    split at hk <;> try (cases hk; done)
    rename_i hd; exact run_equalIn_string w d _ _ _ hd
  · cases h

/-- Cells of plain kinds, compared one by one. -/
theorem run_eqFields {M : Nat → Option Obj} (d : Nat) (xs ys : Array Value) : ∀ (ks : List CK) (fs : List Field) (o : Nat) (as bs : List RV) (t : Bool), plainFields P ks fs o = true →
    RVRs M as (xs.toList.drop o) → RVRs M bs (ys.toList.drop o) → rvEqs ks as bs = some t → (Op.eqFields (d + 1) xs ys fs).run P w = .ok t w := by
  intro ks
  induction ks with
  | nil =>
    intro fs o as bs t hp ha hb ht
    cases fs with
    | cons => simp [plainFields] at hp
    | nil =>
    cases as <;> cases bs <;> simp [rvEqs] at ht
    subst ht; rfl
  | cons k ks ih =>
    intro fs o as bs t hp ha hb ht
    cases fs with
    | nil => simp [plainFields] at hp
    | cons f fs =>
    simp only [plainFields, Bool.and_eq_true, beq_iff_eq, bne_iff_ne, ne_eq] at hp
    obtain ⟨⟨⟨ho, hn⟩, hk⟩, hrest⟩ := hp
    cases as with
    | nil => simp [rvEqs] at ht
    | cons a as =>
    cases bs with
    | nil => simp [rvEqs] at ht
    | cons b bs =>
    simp only [rvEqs] at ht
    cases h1 : rvEq k a b with
    | none => simp [h1] at ht
    | some p =>
    cases h2 : rvEqs ks as bs with
    | none => simp [h1, h2] at ht
    | some q =>
    simp only [h1, h2, Option.some.injEq] at ht
    have hx : ∃ u us, xs.toList.drop o = u :: us := by
      cases hh : xs.toList.drop o with
      | nil => rw [hh] at ha; exact ha.elim
      | cons u us => exact ⟨u, us, rfl⟩
    have hy : ∃ u us, ys.toList.drop o = u :: us := by
      cases hh : ys.toList.drop o with
      | nil => rw [hh] at hb; exact hb.elim
      | cons u us => exact ⟨u, us, rfl⟩
    obtain ⟨u, us, hu⟩ := hx
    obtain ⟨v, vs, hv⟩ := hy
    rw [hu] at ha
    rw [hv] at hb
    have hu1 : xs.toList.drop (o + 1) = us := by rw [← List.drop_drop, hu]; rfl
    have hv1 : ys.toList.drop (o + 1) = vs := by rw [← List.drop_drop, hv]; rfl
    have hu0 : xs[o]? = some u := by
      have : (xs.toList.drop o)[0]? = some u := by rw [hu]; rfl
      simpa using this
    have hv0 : ys[o]? = some v := by
      have : (ys.toList.drop o)[0]? = some v := by rw [hv]; rfl
      simpa using this
    have hag : (isAgg f.type).run P w = .ok false w := by
      cases k <;> (simp only [ckT] at hk; split at hk <;> first | (cases hk; done) | (rename_i hd; simp [isAgg, run_underlying hd]))
    have pa : (part f.type xs f.offset).run P w = .ok u w := by simp [part, hag, ho, hu0]
    have pb : (part f.type ys f.offset).run P w = .ok v w := by simp [part, hag, ho, hv0]
    have he : (Op.equalIn (d + 1) f.type u v).run P w = .ok p w := run_ckEq d hk ha.1 hb.1 h1
    have rest := ih fs (o + 1) as bs q hrest (by rw [hu1]; exact ha.2) (by rw [hv1]; exact hb.2) h2
    simp only [Op.eqFields, ne_eq, hn, not_false_eq_true, if_true, Sem.run_bind, pa, pb, he, Result.andThen_ok]
    cases p
    · simp at ht; subst ht; rfl
    · simp at ht; subst ht; simpa using rest

theorem snd_eqs {neg : Bool} {ks : List CK} {x y : Opd} {o : Oper} {as bs : List RV} {t : Bool} (hR : Rel K c X h w) (hE : EnvR c e ts) (hc : chkOp P (.eqs neg ks x y) o.op = true)
    (hx : ev e x = .r (.agg as)) (hy : ev e y = .r (.agg bs)) (ht : rvEqs ks as bs = some t) : Done P K c X w (execOp (rho ts) o) (.r (.lit (.bool (if neg then !t else t)))) h := by
  cases ho : o.op <;> simp only [ho, chkOp] at hc <;> try (cases hc; done)
  rename_i op ty x' y' yt
  simp only [Bool.and_eq_true, beq_iff_eq] at hc
  obtain ⟨⟨⟨hop, hp⟩, h1⟩, h2⟩ := hc
  have k1 := chkOpd_ok hE h1
  have k2 := chkOpd_ok hE h2
  rw [hx] at k1
  rw [hy] at k2
  simp only [VR, RVR] at k1 k2
  obtain ⟨us, e1, a1, _⟩ := k1
  obtain ⟨vs, e2, a2, _⟩ := k2
  unfold plainStruct at hp
  split at hp <;> try (cases hp; done)
  rename_i fs hd
  simp only [Bool.and_eq_true, Bool.not_eq_true'] at hp
  obtain ⟨⟨p1, p2⟩, p3⟩ := hp
  have hf : P.fieldsOf ty = fs := by unfold Program.fieldsOf; rw [hd]
  have hd' : P.underlying ty = some (.struct (P.fieldsOf ty)) := by rw [hf]; exact hd
  have hrun := run_equalIn_struct (P := P) w 9999 ty us.toArray vs.toArray hd' p2
  rw [hf, run_eqFields (P := P) (w := w) (M := c.M) 9998 us.toArray vs.toArray ks fs.toList 0 as bs t p1 (by simpa using a1) (by simpa using a2) ht] at hrun
  have hg := run_eqGuard_agg (P := P) w op ty x' y' us.toArray vs.toArray p3
  refine Done.pure hR (val := .bool (if neg then !t else t)) ?_ rfl
  cases neg <;> simp only [Bool.false_eq_true, if_false, if_true] at hop ⊢ <;> subst hop
  · simp [execOp, ho, e1, e2, hg, run_eql_struct, hrun]
  · simp [execOp, ho, e1, e2, hg, run_neq_struct, hrun]

end
end Go.AM
/- Each operation of the abstract machine is borne out by the model's (own work), third part: nil, addresses, parts, lengths. -/
namespace Go.AM
section
variable {P : Program} {K : Nat → AC → Code → Prop} {c : Cx} {X : Fr} {h : List Blk} {w : World} {e : Env} {ts : Array Value}

theorem add_lit (b o n : Nat) : (⟨b, o, none⟩ : Addr).add n = ⟨b, o + n, none⟩ := by unfold Addr.add; split <;> simp_all

theorem snd_eqn {neg : Bool} {x : Opd} {o : Oper} {y : Value} {b : Bool} (hR : Rel K c X h w) (hE : EnvR c e ts) (hc : chkOp P (.eqn neg x) o.op = true)
    (hx : ev e x = .r (.lit y)) (hy : (y = .nilIface ∧ b = true) ∨ ∃ t v, y = .iface t v ∧ b = false) : Done P K c X w (execOp (rho ts) o) (.r (.lit (.bool (if b then !neg else neg)))) h := by
  cases ho : o.op <;> simp only [ho, chkOp] at hc <;> try (cases hc; done)
  rename_i op t x' y' yt
  cases y' <;> (try simp only at hc) <;> try (cases hc; done)
  rename_i v'
  cases v' <;> (try simp only at hc) <;> try (cases hc; done)
  simp only [Bool.and_eq_true, beq_iff_eq] at hc
  obtain ⟨⟨hop, ht⟩, h1⟩ := hc
  have k1 := chkOpd_ok hE h1
  rw [hx] at k1
  have k1' : rho ts x' = y := k1
  split at ht <;> try (cases ht; done)
  rename_i ms hd
  refine Done.pure hR (val := .bool (if b then !neg else neg)) ?_ rfl
  have hgd : (eqGuard op t x' (.const .nilIface) y .nilIface).run P w = .ok () w := by
    unfold eqGuard
    rcases hy with ⟨rfl, _⟩ | ⟨t', v', rfl, _⟩ <;> cases op <;> first | rfl | (cases x' <;> rfl) | simp
  have hb : (Op.equal t y .nilIface).run P w = .ok b w := by
    have : ∀ d, (Op.equalIn (d + 1) t y .nilIface).run P w = .ok b w := fun d => by
      rcases hy with ⟨rfl, rfl⟩ | ⟨t', v', rfl, rfl⟩ <;> simp [Op.equalIn, run_underlying hd]
    exact this 9999
  have q : (binOp .eql t y .nilIface).run P w = .ok (.bool b) w ∧ (binOp .neq t y .nilIface).run P w = .ok (.bool (!b)) w := by
    rcases hy with ⟨rfl, rfl⟩ | ⟨t', v', rfl, rfl⟩
    · exact ⟨by simp only [binOp]; simp [hb], by simp only [binOp]; simp [hb]⟩
    · exact ⟨by simp only [binOp]; simp [hb], by simp only [binOp]; simp [hb]⟩
  have kc : rho ts (.const .nilIface) = .nilIface := rfl
  cases neg <;> simp only [Bool.false_eq_true, if_false, if_true] at hop <;> subst hop
  · cases b <;> simp [execOp, ho, k1', kc, hgd, q.1]
  · cases b <;> simp [execOp, ho, k1', kc, hgd, q.2]

theorem snd_eqnl {neg : Bool} {x : Opd} {o : Oper} {b : Bool} (hR : Rel K c X h w) (hE : EnvR c e ts) (hc : chkOp P (.eqnl neg x) o.op = true)
    (hx : ∀ v, VR c (ev e x) v → ∃ a l k, v = .slice a l k ∧ a.isNone = b) : Done P K c X w (execOp (rho ts) o) (.r (.lit (.bool (if b then !neg else neg)))) h := by
  cases ho : o.op <;> simp only [ho, chkOp] at hc <;> try (cases hc; done)
  rename_i op t x' y' yt
  cases y' <;> (try simp only at hc) <;> try (cases hc; done)
  rename_i v'
  cases v' <;> (try simp only at hc) <;> try (cases hc; done)
  rename_i a1 l1 k1
  cases a1 <;> cases l1 <;> cases k1 <;> (try simp only at hc) <;> try (cases hc; done)
  simp only [Bool.and_eq_true, beq_iff_eq] at hc
  obtain ⟨⟨hop, ht⟩, h1⟩ := hc
  obtain ⟨a, l, k, hv, hb⟩ := hx _ (chkOpd_ok hE h1)
  split at ht <;> try (cases ht; done)
  rename_i el hd
  refine Done.pure hR (val := .bool (if b then !neg else neg)) ?_ rfl
  have hgd : (eqGuard op t x' (.const (.slice none 0 0)) (.slice a l k) (.slice none 0 0)).run P w = .ok () w := by
    unfold eqGuard
    cases op <;> rfl
  have he : (Op.equal t (.slice a l k) (.slice none 0 0)).run P w = .ok b w := by
    have : ∀ d, (Op.equalIn (d + 1) t (.slice a l k) (.slice none 0 0)).run P w = .ok b w := fun d => by
      subst hb
      cases a <;> simp [Op.equalIn, run_underlying hd]
    exact this 9999
  have q1 : (binOp .eql t (.slice a l k) (.slice none 0 0)).run P w = .ok (.bool b) w := by simp only [binOp]; simp [he]
  have q2 : (binOp .neq t (.slice a l k) (.slice none 0 0)).run P w = .ok (.bool (!b)) w := by simp only [binOp]; simp [he]
  have kc : rho ts (.const (.slice none 0 0)) = .slice none 0 0 := rfl
  cases neg <;> simp only [Bool.false_eq_true, if_false, if_true] at hop <;> subst hop
  · cases b <;> simp [execOp, ho, hv, kc, hgd, q1]
  · cases b <;> simp [execOp, ho, hv, kc, hgd, q2]

theorem snd_nilc {x : Opd} {o : Oper} (hR : Rel K c X h w) (hE : EnvR c e ts) (hc : chkOp P (.nilc x) o.op = true)
    (hx : ∀ v, VR c (ev e x) v → (∃ a, v = .pointer (some a)) ∨ ∃ f a b, v = .func (.func f) a b) : Done P K c X w (execOp (rho ts) o) (ev e x) h := by
  cases ho : o.op <;> simp only [ho, chkOp] at hc <;> try (cases hc; done)
  have k1 := chkOpd_ok hE hc
  rcases hx _ k1 with ⟨a, hv⟩ | ⟨f, a, b, hv⟩
  · exact Done.pure hR (by simp [execOp, ho, hv]) (hv ▸ k1)
  · exact Done.pure hR (by simp [execOp, ho, hv]) (hv ▸ k1)

theorem fdT_ok {t f off u : Nat} (h : fdT P t f off = some u) : ∃ (fs : Array Field) (g : Field), P.underlying t = some (.struct fs) ∧ fs[f]? = some g ∧ g.offset = off ∧ g.type = u := by
  unfold fdT at h
  split at h <;> try (cases h; done)
  rename_i fs hd
  split at h <;> try (cases h; done)
  rename_i g hg
  split at h <;> try (cases h; done)
  rename_i ho
  cases h
  exact ⟨fs, g, hd, hg, by simpa using ho, rfl⟩

def padA (off : Nat) : AV → AV
  | .own i g o => .own i g (o + off)
  | .r (.ptr cs) => .r (.ptr (cs.drop off))
  | v => v

/-- A pointer moved on within what it points into. -/
theorem ptr_add {v : AV} {val : Value} {off : Nat} (hv : VR c v val) (hp : (∃ i g o, v = .own i g o) ∨ ∃ cs, v = .r (.ptr cs)) :
    ∃ a, val = .pointer (some a) ∧ VR c (padA off v) (.pointer (some (a.add off))) := by
  rcases hp with ⟨i, g, o, rfl⟩ | ⟨cs, rfl⟩
  · simp only [VR, padA] at hv ⊢
    obtain ⟨h1, h2, ⟨a, rfl⟩, h4⟩ := hv
    refine ⟨a, rfl, h1, h2, ⟨_, rfl⟩, fun eg => ?_⟩
    have := h4 eg
    simp only [Value.pointer.injEq, Option.some.injEq] at this
    rw [this, add_lit]
  · simp only [VR, RVR, padA] at hv ⊢
    obtain ⟨b, o, vs, rfl, h2, h3, h4⟩ := hv
    refine ⟨_, rfl, b, o + off, vs.drop off, by rw [add_lit], ?_, ?_, fun u hu => h4 u (List.mem_of_mem_drop hu)⟩
    · obtain ⟨C, t, fr, m1, m2⟩ := h2
      refine ⟨C, t, fr, m1, fun k u hu => ?_⟩
      rw [List.getElem?_drop] at hu
      have := m2 _ u hu
      rw [show o + off + k = o + (off + k) by omega]; exact this
    · exact rvrs_iff.2 ((rvrs_iff.1 h3).drop off)

theorem snd_padd {off : Nat} {x : Opd} {o : Oper} (hR : Rel K c X h w) (hE : EnvR c e ts) (hc : chkOp P (.padd off x) o.op = true)
    (hp : (∃ i g o, ev e x = .own i g o) ∨ ∃ cs, ev e x = .r (.ptr cs)) :
    Done P K c X w (execOp (rho ts) o) (padA off (ev e x)) h := by
  cases ho : o.op <;> simp only [ho, chkOp] at hc <;> try (cases hc; done)
  rename_i t y f
  simp only [Bool.and_eq_true] at hc
  obtain ⟨h1, h2⟩ := hc
  split at h1 <;> try (cases h1; done)
  rename_i u hu
  obtain ⟨fs, g, hd, hg, ho1, rfl⟩ := fdT_ok hu
  split at h1 <;> try (cases h1; done)
  rename_i i hi
  obtain ⟨a, ha, hv⟩ := ptr_add (off := off) (chkOpd_ok hE h2) hp
  refine Done.pure hR (val := .pointer (some (a.add off))) ?_ hv
  have hs : (sizeOf g.type).run P w = .ok i.size w := by simp [sizeOf, typeInfo, hi]
  have hne : i.size ≠ 0 := by simpa using h1
  simp [execOp, ho, ha, Instr.fieldAt, run_underlying hd, hg, Instr.sureAddr, fieldPlace, hs, hne, ho1]

/-- A slice of an aggregate's cells. -/
theorem run_part {u n : Nat} {ag : Bool} {cs : Array Value} {off : Nat} {v : Value} (h1 : szT P u n = true) (h2 : agT P u ag = true)
    (h : (ag = true ∧ v = .agg (cs.extract off (off + n))) ∨ (ag = false ∧ cs[off]? = some v)) : (part u cs off).run P w = .ok v w := by
  rcases h with ⟨rfl, rfl⟩ | ⟨rfl, hv⟩
  · simp [part, agT_ok h2, szT_ok h1]
  · simp [part, agT_ok h2, hv]

theorem extract_list (vs : List Value) (off n : Nat) : vs.toArray.extract off (off + n) = ((vs.drop off).take n).toArray := by
  apply Array.ext'
  simp [List.extract_eq_take_drop]

theorem Ones.take {vs : List Value} (h : Ones vs) (n : Nat) : Ones (vs.take n) := fun u hu => h u (List.mem_of_mem_take hu)
theorem Ones.drop {vs : List Value} (h : Ones vs) (n : Nat) : Ones (vs.drop n) := fun u hu => h u (List.mem_of_mem_drop hu)
theorem Ones.append {vs us : List Value} (h : Ones vs) (k : Ones us) : Ones (vs ++ us) := fun u hu => by
  rcases List.mem_append.1 hu with h1 | h1
  · exact h u h1
  · exact k u h1

theorem RVRs.take {M : Nat → Option Obj} {xs : List RV} {vs : List Value} (h : RVRs M xs vs) (n : Nat) : RVRs M (xs.take n) (vs.take n) := rvrs_iff.2 ((rvrs_iff.1 h).take n)
theorem RVRs.drop {M : Nat → Option Obj} {xs : List RV} {vs : List Value} (h : RVRs M xs vs) (n : Nat) : RVRs M (xs.drop n) (vs.drop n) := rvrs_iff.2 ((rvrs_iff.1 h).drop n)
theorem VRs.take {xs : List AV} {vs : List Value} (h : VRs c xs vs) (n : Nat) : VRs c (xs.take n) (vs.take n) := vrs_iff.2 ((vrs_iff.1 h).take n)
theorem VRs.drop {xs : List AV} {vs : List Value} (h : VRs c xs vs) (n : Nat) : VRs c (xs.drop n) (vs.drop n) := vrs_iff.2 ((vrs_iff.1 h).drop n)
theorem VRs.append {xs ys : List AV} {vs us : List Value} (h : VRs c xs vs) (k : VRs c ys us) : VRs c (xs ++ ys) (vs ++ us) := vrs_iff.2 ((vrs_iff.1 h).append (vrs_iff.1 k))
theorem VRs.length {xs : List AV} {vs : List Value} (h : VRs c xs vs) : xs.length = vs.length := (vrs_iff.1 h).length
theorem RVRs.length {M : Nat → Option Obj} {xs : List RV} {vs : List Value} (h : RVRs M xs vs) : xs.length = vs.length := (rvrs_iff.1 h).length

theorem snd_fldR {off n : Nat} {ag : Bool} {x : Opd} {o : Oper} {cs : List RV} {v : RV} (hR : Rel K c X h w) (hE : EnvR c e ts) (hc : chkOp P (.fld off n ag x) o.op = true)
    (hx : ev e x = .r (.agg cs)) (hv : (ag = true ∧ v = .agg ((cs.drop off).take n)) ∨ (ag = false ∧ cs[off]? = some v)) : Done P K c X w (execOp (rho ts) o) (.r v) h := by
  cases ho : o.op <;> simp only [ho, chkOp] at hc <;> try (cases hc; done)
  rename_i t y f
  simp only [Bool.and_eq_true] at hc
  obtain ⟨h1, h2⟩ := hc
  split at h1 <;> try (cases h1; done)
  rename_i u hu
  obtain ⟨fs, g, hd, hg, ho1, rfl⟩ := fdT_ok hu
  simp only [Bool.and_eq_true] at h1
  have k := chkOpd_ok hE h2
  rw [hx] at k
  simp only [VR, RVR] at k
  obtain ⟨vs, e1, e2, e3⟩ := k
  rcases hv with ⟨rfl, rfl⟩ | ⟨rfl, hv⟩
  · refine Done.pure hR (val := .agg ((vs.drop off).take n).toArray) ?_ (by simp only [VR, RVR]; exact ⟨_, rfl, (e2.drop off).take n, (e3.drop off).take n⟩)
    have := run_part (P := P) (w := w) (cs := vs.toArray) (off := off) (v := .agg ((vs.drop off).take n).toArray) h1.1 h1.2 (.inl ⟨rfl, by rw [extract_list]⟩)
    simp [execOp, ho, e1, Instr.field, run_underlying hd, hg, asAgg, ho1, this]
  · obtain ⟨val, hval, hr⟩ := (rvrs_iff.1 e2).get hv
    refine Done.pure hR (val := val) ?_ hr
    have := run_part (P := P) (w := w) (cs := vs.toArray) (off := off) (v := val) h1.1 h1.2 (.inr ⟨rfl, by simpa using hval⟩)
    simp [execOp, ho, e1, Instr.field, run_underlying hd, hg, asAgg, ho1, this]

theorem snd_fldA {off n : Nat} {ag : Bool} {x : Opd} {o : Oper} {cs : List AV} {v : AV} (hR : Rel K c X h w) (hE : EnvR c e ts) (hc : chkOp P (.fld off n ag x) o.op = true)
    (hx : ev e x = .agg cs) (hv : (ag = true ∧ v = mkAgg ((cs.drop off).take n)) ∨ (ag = false ∧ cs[off]? = some v)) : Done P K c X w (execOp (rho ts) o) v h := by
  cases ho : o.op <;> simp only [ho, chkOp] at hc <;> try (cases hc; done)
  rename_i t y f
  simp only [Bool.and_eq_true] at hc
  obtain ⟨h1, h2⟩ := hc
  split at h1 <;> try (cases h1; done)
  rename_i u hu
  obtain ⟨fs, g, hd, hg, ho1, rfl⟩ := fdT_ok hu
  simp only [Bool.and_eq_true] at h1
  have k := chkOpd_ok hE h2
  rw [hx] at k
  simp only [VR] at k
  obtain ⟨vs, e1, e2, e3⟩ := k
  rcases hv with ⟨rfl, rfl⟩ | ⟨rfl, hv⟩
  · refine Done.pure hR (val := .agg ((vs.drop off).take n).toArray) ?_ (mkAgg_ok ((e2.drop off).take n) ((e3.drop off).take n))
    have := run_part (P := P) (w := w) (cs := vs.toArray) (off := off) (v := .agg ((vs.drop off).take n).toArray) h1.1 h1.2 (.inl ⟨rfl, by rw [extract_list]⟩)
    simp [execOp, ho, e1, Instr.field, run_underlying hd, hg, asAgg, ho1, this]
  · obtain ⟨val, hval, hr⟩ := (vrs_iff.1 e2).get hv
    refine Done.pure hR (val := val) ?_ hr
    have := run_part (P := P) (w := w) (cs := vs.toArray) (off := off) (v := val) h1.1 h1.2 (.inr ⟨rfl, by simpa using hval⟩)
    simp [execOp, ho, e1, Instr.field, run_underlying hd, hg, asAgg, ho1, this]

end
end Go.AM
/- Each operation of the abstract machine is borne out by the model's (own work), fourth part: indexes, slices of slices, lengths, loads and stores. -/
namespace Go.AM
section
variable {P : Program} {K : Nat → AC → Code → Prop} {c : Cx} {X : Fr} {h : List Blk} {w : World} {e : Env} {ts : Array Value}

theorem At.drop {M : Nat → Option Obj} {b o : Nat} {vs : List Value} (h : At M b o vs) (n : Nat) : At M b (o + n) (vs.drop n) := by
  obtain ⟨C, t, fr, m1, m2⟩ := h
  refine ⟨C, t, fr, m1, fun k u hu => ?_⟩
  rw [List.getElem?_drop] at hu
  have := m2 _ u hu
  rw [show o + n + k = o + (n + k) by omega]; exact this
theorem At.take {M : Nat → Option Obj} {b o : Nat} {vs : List Value} (h : At M b o vs) (n : Nat) : At M b o (vs.take n) := by
  obtain ⟨C, t, fr, m1, m2⟩ := h
  refine ⟨C, t, fr, m1, fun k u hu => m2 k u ?_⟩
  rw [List.getElem?_take] at hu
  split at hu
  · exact hu
  · cases hu

theorem run_indexAt_slice {t el sz len k : Nat} {a : Addr} {j : IntKind} {n : Int} (hd : P.underlying t = some (.slice el)) (hs : szT P el sz = true) (h0 : 0 ≤ n) (h1 : n < (len : Int)) :
    (Instr.indexAt t (.slice (some a) len k) (.int j n)).run P w = .ok (.pointer (some (a.add (n.toNat * sz)))) w := by
  simp [Instr.indexAt, asIntOf, run_underlying hd, szT_ok hs, h0, h1]

theorem run_indexAt_array {t el sz len : Nat} {a : Addr} {j : IntKind} {n : Int} (hd : P.underlying t = some (.array len el)) (hs : szT P el sz = true) (h0 : 0 ≤ n) (h1 : n < (len : Int)) :
    (Instr.indexAt t (.pointer (some a)) (.int j n)).run P w = .ok (.pointer (some (a.add (n.toNat * sz)))) w := by
  simp [Instr.indexAt, asIntOf, run_underlying hd, szT_ok hs, h0, h1, Instr.sureAddr]

theorem snd_idxSR {sz : Nat} {x i : Opd} {o : Oper} {n : Int} {cs : List RV} {len : Nat} {cap : Option Nat} (hR : Rel K c X h w) (hE : EnvR c e ts) (hc : chkOp P (.idxS sz x i) o.op = true)
    (hi : (ev e i).int? = some n) (hx : ev e x = .r (.sl cs len cap)) (h0 : 0 ≤ n) (h1 : n < (len : Int)) : Done P K c X w (execOp (rho ts) o) (.r (.ptr (cs.drop (n.toNat * sz)))) h := by
  cases ho : o.op <;> simp only [ho, chkOp] at hc <;> try (cases hc; done)
  rename_i t y j
  simp only [Bool.and_eq_true] at hc
  obtain ⟨⟨hs, hy⟩, hj⟩ := hc
  obtain ⟨el, hd, hs⟩ := slSz_ok hs
  obtain ⟨ik, hn⟩ := int?_ok hi (chkOpd_ok hE hj)
  have k1 := chkOpd_ok hE hy
  rw [hx] at k1
  simp only [VR, RVR] at k1
  obtain ⟨a, k, vs, e1, e2, e3, e4, e5, e6, _⟩ := k1
  obtain ⟨b, off, rfl, ha⟩ := e6 (by omega)
  refine Done.pure hR (val := .pointer (some ⟨b, off + n.toNat * sz, none⟩)) ?_ ?_
  · have := run_indexAt_slice (P := P) (w := w) (k := k) (a := ⟨b, off, none⟩) (j := ik) hd hs h0 h1
    rw [add_lit] at this
    simp [execOp, ho, hn, e1, this]
  · simp only [VR, RVR]
    exact ⟨b, _, _, rfl, ha.drop _, e4.drop _, e5.drop _⟩

theorem snd_idxSO {sz : Nat} {x i : Opd} {o : Oper} {n : Int} {i0 g off len : Nat} {cap : Option Nat} (hR : Rel K c X h w) (hE : EnvR c e ts) (hc : chkOp P (.idxS sz x i) o.op = true)
    (hi : (ev e i).int? = some n) (hx : ev e x = .osl i0 g off len sz cap) (h0 : 0 ≤ n) (h1 : n < (len : Int)) : Done P K c X w (execOp (rho ts) o) (.own i0 g (off + n.toNat * sz)) h := by
  cases ho : o.op <;> simp only [ho, chkOp] at hc <;> try (cases hc; done)
  rename_i t y j
  simp only [Bool.and_eq_true] at hc
  obtain ⟨⟨hs, hy⟩, hj⟩ := hc
  obtain ⟨el, hd, hs⟩ := slSz_ok hs
  obtain ⟨ik, hn⟩ := int?_ok hi (chkOpd_ok hE hj)
  have k1 := chkOpd_ok hE hy
  rw [hx] at k1
  simp only [VR] at k1
  obtain ⟨m1, m2, a, k, m3, m4⟩ := k1
  refine Done.pure hR (val := .pointer (some (a.add (n.toNat * sz)))) ?_ ?_
  · have := run_indexAt_slice (P := P) (w := w) (k := k) (a := a) (j := ik) hd hs h0 h1
    simp [execOp, ho, hn, m3, this]
  · simp only [VR]
    refine ⟨m1, m2, ⟨_, rfl⟩, fun eg => ?_⟩
    rw [(m4 eg).1, add_lit]

theorem snd_idxA {len sz : Nat} {x i : Opd} {o : Oper} {n : Int} (hR : Rel K c X h w) (hE : EnvR c e ts) (hc : chkOp P (.idxA len sz x i) o.op = true)
    (hi : (ev e i).int? = some n) (hp : (∃ i g o, ev e x = .own i g o) ∨ ∃ cs, ev e x = .r (.ptr cs)) (h0 : 0 ≤ n) (h1 : n < (len : Int)) :
    Done P K c X w (execOp (rho ts) o) (padA (n.toNat * sz) (ev e x)) h := by
  cases ho : o.op <;> simp only [ho, chkOp] at hc <;> try (cases hc; done)
  rename_i t y j
  simp only [Bool.and_eq_true] at hc
  obtain ⟨⟨hs, hy⟩, hj⟩ := hc
  obtain ⟨el, hd, hs⟩ := arT_ok hs
  obtain ⟨ik, hn⟩ := int?_ok hi (chkOpd_ok hE hj)
  obtain ⟨a, ha, hv⟩ := ptr_add (off := n.toNat * sz) (chkOpd_ok hE hy) hp
  refine Done.pure hR (val := .pointer (some (a.add (n.toNat * sz)))) ?_ hv
  have := run_indexAt_array (P := P) (w := w) (a := a) (j := ik) hd hs h0 h1
  simp [execOp, ho, hn, ha, this]

theorem snd_idxV {len sz : Nat} {ag : Bool} {x i : Opd} {o : Oper} {n : Int} {cs : List RV} {v : RV} (hR : Rel K c X h w) (hE : EnvR c e ts) (hc : chkOp P (.idxV len sz ag x i) o.op = true)
    (hi : (ev e i).int? = some n) (hx : ev e x = .r (.agg cs)) (h0 : 0 ≤ n) (h1 : n < (len : Int))
    (hv : (ag = true ∧ v = .agg ((cs.drop (n.toNat * sz)).take sz)) ∨ (ag = false ∧ cs[n.toNat * sz]? = some v)) : Done P K c X w (execOp (rho ts) o) (.r v) h := by
  cases ho : o.op <;> simp only [ho, chkOp] at hc <;> try (cases hc; done)
  rename_i t y j
  simp only [Bool.and_eq_true] at hc
  obtain ⟨⟨hs, hy⟩, hj⟩ := hc
  split at hs <;> try (cases hs; done)
  rename_i m el hd
  simp only [Bool.and_eq_true, beq_iff_eq] at hs
  obtain ⟨⟨rfl, hs⟩, hg⟩ := hs
  obtain ⟨ik, hn⟩ := int?_ok hi (chkOpd_ok hE hj)
  have k1 := chkOpd_ok hE hy
  rw [hx] at k1
  simp only [VR, RVR] at k1
  obtain ⟨vs, e1, e2, e3⟩ := k1
  rcases hv with ⟨rfl, rfl⟩ | ⟨rfl, hv⟩
  · refine Done.pure hR (val := .agg ((vs.drop (n.toNat * sz)).take sz).toArray) ?_ (by simp only [VR, RVR]; exact ⟨_, rfl, (e2.drop _).take _, (e3.drop _).take _⟩)
    have := run_part (P := P) (w := w) (cs := vs.toArray) (off := n.toNat * sz) (v := .agg ((vs.drop (n.toNat * sz)).take sz).toArray) hs hg (.inl ⟨rfl, by rw [extract_list]⟩)
    simp [execOp, ho, hn, e1, Instr.index, asIntOf, run_underlying hd, szT_ok hs, h0, h1, this]
  · obtain ⟨val, hval, hr⟩ := (rvrs_iff.1 e2).get hv
    refine Done.pure hR (val := val) ?_ hr
    have := run_part (P := P) (w := w) (cs := vs.toArray) (off := n.toNat * sz) (v := val) hs hg (.inr ⟨rfl, by simpa using hval⟩)
    simp [execOp, ho, hn, e1, Instr.index, asIntOf, run_underlying hd, szT_ok hs, h0, h1, this]

theorem snd_idxT {x i : Opd} {o : Oper} {n : Int} {s : ByteArray} {b : UInt8} (hR : Rel K c X h w) (hE : EnvR c e ts) (hc : chkOp P (.idxT x i) o.op = true)
    (hi : (ev e i).int? = some n) (hx : ev e x = .r (.lit (.string s))) (h0 : 0 ≤ n) (hb : s.data.toList[n.toNat]? = some b) : Done P K c X w (execOp (rho ts) o) (.r (.lit (.int .u8 b.toNat))) h := by
  cases ho : o.op <;> simp only [ho, chkOp] at hc <;> try (cases hc; done)
  rename_i t y j
  simp only [Bool.and_eq_true] at hc
  obtain ⟨⟨hs, hy⟩, hj⟩ := hc
  split at hs <;> try (cases hs; done)
  rename_i hd
  obtain ⟨ik, hn⟩ := int?_ok hi (chkOpd_ok hE hj)
  have k1 := chkOpd_ok hE hy
  rw [hx] at k1
  have k1' : rho ts y = .string s := k1
  refine Done.pure hR (val := .int .u8 b.toNat) ?_ rfl
  have hg : s[n.toNat]? = some b := by
    have h1 : s.data[n.toNat]? = some b := by simpa using hb
    obtain ⟨hlt, hval⟩ := Array.getElem?_eq_some_iff.1 h1
    have hlt' : n.toNat < s.size := hlt
    rw [getElem?_pos s n.toNat hlt']
    simp only [Option.some.injEq]
    exact hval
  simp [execOp, ho, hn, k1', Instr.index, asIntOf, run_underlying hd, h0, hg]

theorem snd_min {x y : Opd} {o : Oper} {k j : IntKind} {a b : Int} (hR : Rel K c X h w) (hE : EnvR c e ts) (hc : chkOp P (.min x y) o.op = true)
    (hx : ev e x = .r (.lit (.int k a))) (hy : ev e y = .r (.lit (.int j b))) : Done P K c X w (execOp (rho ts) o) (.r (.lit (.int k (if b < a then b else a)))) h := by
  simp only [chkOp] at hc
  split at hc <;> try (cases hc; done)
  rename_i x' y' _ ho
  have ho := bltOf_ok ho
  simp only [Bool.and_eq_true] at hc
  have k1 := chkOpd_ok hE hc.1
  have k2 := chkOpd_ok hE hc.2
  rw [hx] at k1; rw [hy] at k2
  have k1' : rho ts x' = .int k a := k1
  have k2' : rho ts y' = .int j b := k2
  exact Done.pure hR (val := .int k (if b < a then b else a)) (by simp [execOp, ho, resolve, invoke, builtin, k1', k2', Builtin.min_, Builtin.min2]) rfl

theorem snd_max {x y : Opd} {o : Oper} {k j : IntKind} {a b : Int} (hR : Rel K c X h w) (hE : EnvR c e ts) (hc : chkOp P (.max x y) o.op = true)
    (hx : ev e x = .r (.lit (.int k a))) (hy : ev e y = .r (.lit (.int j b))) : Done P K c X w (execOp (rho ts) o) (.r (.lit (.int k (if b > a then b else a)))) h := by
  simp only [chkOp] at hc
  split at hc <;> try (cases hc; done)
  rename_i x' y' _ ho
  have ho := bltOf_ok ho
  simp only [Bool.and_eq_true] at hc
  have k1 := chkOpd_ok hE hc.1
  have k2 := chkOpd_ok hE hc.2
  rw [hx] at k1; rw [hy] at k2
  have k1' : rho ts x' = .int k a := k1
  have k2' : rho ts y' = .int j b := k2
  exact Done.pure hR (val := .int k (if b > a then b else a)) (by simp [execOp, ho, resolve, invoke, builtin, k1', k2', Builtin.max_, Builtin.max2]) rfl

end
end Go.AM
/- Each operation of the abstract machine is borne out by the model's (own work), fifth part: lengths, slices of slices, loads and stores. -/
namespace Go.AM
section
variable {P : Program} {K : Nat → AC → Code → Prop} {c : Cx} {X : Fr} {h : List Blk} {w : World} {e : Env} {ts : Array Value}

theorem snd_lenS {x : Opd} {o : Oper} {n : Nat} (hR : Rel K c X h w) (hE : EnvR c e ts) (hc : chkOp P (.lenS x) o.op = true)
    (hx : ∀ v, VR c (ev e x) v → ∃ a k, v = .slice a n k) : Done P K c X w (execOp (rho ts) o) (.r (.lit (.int .i64 n))) h := by
  simp only [chkOp] at hc
  split at hc <;> try (cases hc; done)
  rename_i x' t ho
  have ho := bltOf_ok ho
  simp only [Bool.and_eq_true] at hc
  obtain ⟨a, k, hv⟩ := hx _ (chkOpd_ok hE hc.2)
  have ht := hc.1
  split at ht <;> try (cases ht; done)
  rename_i el hd
  exact Done.pure hR (val := .int .i64 n) (by simp [execOp, ho, resolve, invoke, builtin, hv, Builtin.len_, run_underlying hd, goInt]) rfl

theorem snd_lenT {x : Opd} {o : Oper} {s : ByteArray} (hR : Rel K c X h w) (hE : EnvR c e ts) (hc : chkOp P (.lenT x) o.op = true)
    (hx : ev e x = .r (.lit (.string s))) : Done P K c X w (execOp (rho ts) o) (.r (.lit (.int .i64 s.size))) h := by
  simp only [chkOp] at hc
  split at hc <;> try (cases hc; done)
  rename_i x' t ho
  have ho := bltOf_ok ho
  simp only [Bool.and_eq_true] at hc
  have k1 := chkOpd_ok hE hc.2
  rw [hx] at k1
  have hv : rho ts x' = .string s := k1
  have ht := hc.1
  split at ht <;> try (cases ht; done)
  rename_i hd
  exact Done.pure hR (val := .int .i64 s.size) (by simp [execOp, ho, resolve, invoke, builtin, hv, Builtin.len_, run_underlying hd, goInt]) rfl

theorem bound_ok {lo : Option Opd} {l : Option Operand} {d n : Nat} (hE : EnvR c e ts) (hc : chkOO lo l = true) (h : bound (lo.map (ev e)) d = some n) :
    (lo = none ∧ l = none ∧ n = d) ∨ ∃ y k, l = some y ∧ rho ts y = .int k n := by
  cases lo <;> cases l <;> simp only [chkOO] at hc <;> try (cases hc; done)
  · simp [bound] at h; exact .inl ⟨rfl, rfl, h.symm⟩
  · rename_i x y
    simp only [bound, Option.map_some] at h
    cases hi : (ev e x).int? with
    | none => simp [hi] at h
    | some m =>
      simp only [hi] at h
      split at h <;> try (cases h; done)
      rename_i h0
      cases h
      obtain ⟨k, hk⟩ := int?_ok hi (chkOpd_ok hE hc)
      exact .inr ⟨y, k, rfl, by rw [hk, Int.toNat_of_nonneg h0]⟩

theorem run_sliceBound {k : IntKind} {n y : Nat} (code : BoundsCode) (h : n ≤ y) : (Instr.sliceBound (.int k n) y code).run P w = .ok n w := by
  have h' : (n : Int) ≤ (y : Int) := by omega
  simp [Instr.sliceBound, asIntOf, h']

/-- The bounds of a slice expression. -/
theorem run_bounds {lo hi mx : Option Opd} {l h m : Option Operand} {a b z len cap : Nat} {isS : Bool} (hE : EnvR c e ts) (h1 : chkOO lo l = true) (h2 : chkOO hi h = true) (h3 : chkOO mx m = true)
    (k1 : bound (lo.map (ev e)) 0 = some a) (k2 : bound (hi.map (ev e)) len = some b) (k3 : bound (mx.map (ev e)) cap = some z) (hab : a ≤ b) (hbz : b ≤ z) (hz : z ≤ cap) (hm : mx ≠ none → hi ≠ none) :
    (Instr.sliceBounds isS len cap (l.map (rho ts)) (h.map (rho ts)) (m.map (rho ts))).run P w = .ok (a, b, z) w := by
  rcases bound_ok hE h1 k1 with ⟨rfl, rfl, rfl⟩ | ⟨y1, j1, rfl, e1⟩ <;> rcases bound_ok hE h2 k2 with ⟨rfl, rfl, rfl⟩ | ⟨y2, j2, rfl, e2⟩ <;> rcases bound_ok hE h3 k3 with ⟨rfl, rfl, rfl⟩ | ⟨y3, j3, rfl, e3⟩
  all_goals first
    | (simp [Instr.sliceBounds, *, run_sliceBound]; done)
    | (exfalso; cases mx with
       | none => cases h3
       | some => exact hm (by simp) rfl)

theorem snd_slc_sl {sz : Nat} {x : Opd} {lo hi mx : Option Opd} {o : Oper} {cs : List RV} {len a b : Nat} {cap : Option Nat} (hR : Rel K c X h w) (hE : EnvR c e ts) (hc : chkOp P (.slc sz x lo hi mx) o.op = true)
    (hx : ev e x = .r (.sl cs len cap)) (k1 : bound (lo.map (ev e)) 0 = some a) (k2 : bound (hi.map (ev e)) len = some b) (hab : a ≤ b) (hb : b ≤ len) (hl : cs.length = len * sz)
    {cap' : Option Nat} (k3 : (mx = none ∧ cap' = cap.map (· - a)) ∨ (hi ≠ none ∧ ∃ z : Nat, bound (mx.map (ev e)) len = some z ∧ mx ≠ none ∧ b ≤ z ∧ z ≤ len ∧ cap' = some (z - a))) :
    Done P K c X w (execOp (rho ts) o) (.r (.sl ((cs.drop (a * sz)).take ((b - a) * sz)) (b - a) cap')) h := by
  cases ho : o.op <;> simp only [ho, chkOp] at hc <;> try (cases hc; done)
  rename_i t y l' h' m'
  simp only [Bool.and_eq_true] at hc
  obtain ⟨⟨⟨⟨hs, hy⟩, c1⟩, c2⟩, c3⟩ := hc
  obtain ⟨el, hd, hs⟩ := slSz_ok hs
  have kx := chkOpd_ok hE hy
  rw [hx] at kx
  simp only [VR, RVR] at kx
  obtain ⟨ad, k, vs, e1, e2, e3, e4, e5, e6, e7⟩ := kx
  obtain ⟨z, hz, hbz, hzk, hcap⟩ : ∃ z, bound (mx.map (ev e)) k = some z ∧ b ≤ z ∧ z ≤ k ∧ ∀ q, cap' = some q → z - a = q := by
    rcases k3 with ⟨rfl, rfl⟩ | ⟨hh, z, q1, q2, q3, q4, rfl⟩
    · refine ⟨k, rfl, by omega, Nat.le_refl _, fun q hq => ?_⟩
      cases cap with
      | none => cases hq
      | some cc => simp at hq; rw [← hq, e3 cc rfl]
    · refine ⟨z, ?_, q3, by omega, fun q hq => by cases hq; rfl⟩
      cases mx with
      | none => exact absurd rfl q2
      | some x => simpa [bound] using q1
  have hrun := run_bounds (P := P) (w := w) (isS := true) hE c1 c2 c3 k1 k2 hz hab hbz hzk (by
    rcases k3 with ⟨rfl, _⟩ | ⟨hh, _⟩
    · intro hq; exact absurd rfl hq
    · exact fun _ => hh)
  refine Done.pure hR (val := .slice (if z = a then ad else ad.map (·.add (a * sz))) (b - a) (z - a)) ?_ ?_
  · simp only [execOp, ho]
    cases m' <;> simp [Instr.sliceAt, run_underlying hd, e1, Instr.slice, szT_ok hs] at hrun ⊢ <;> simp [hrun]
  · simp only [VR, RVR]
    refine ⟨_, z - a, (vs.drop (a * sz)).take ((b - a) * sz), rfl, by omega, fun q hq => hcap q hq, (e4.drop _).take _, (e5.drop _).take _, fun hp => ?_, fun hn => ?_⟩
    · obtain ⟨bb, off, rfl, ha⟩ := e6 (by omega)
      have hza : z ≠ a := by omega
      exact ⟨bb, off + a * sz, by rw [if_neg hza]; simp [add_lit], (ha.drop _).take _⟩
    · have : ad = none := by
        split at hn
        · exact hn
        · simpa using hn
      have := e7 this
      omega

end
end Go.AM
/- Each operation of the abstract machine is borne out by the model's (own work), sixth part: slices of owned rows, loads and stores. -/
namespace Go.AM
section
variable {P : Program} {K : Nat → AC → Code → Prop} {c : Cx} {X : Fr} {h : List Blk} {w : World} {e : Env} {ts : Array Value}

/-- What an owned slice is, at its own generation. -/
theorem rcells_ok (hR : Rel K c X h w) {m : Mem} (hm : m.h = h) {i g : Nat} {cs : List AV} (hc : rcells m i g = some cs) :
    g = c.G i ∧ i < c.n ∧ ∃ t C vs rest, h[i]? = some (.cells cs t g) ∧ w.heap[c.β i]? = some (.cells C t (0, 0)) ∧ C.size = c.Z i ∧ C.toList = vs ++ rest ∧ VRs c cs vs ∧ Ones vs := by
  subst hm
  unfold rcells at hc
  split at hc <;> try (cases hc; done)
  rename_i cs' t g' hb
  split at hc <;> try (cases hc; done)
  rename_i hg
  cases hc
  subst hg
  obtain ⟨o, ho, hbr⟩ := hR.blk i _ hb trivial
  obtain ⟨h1, C, rfl, h3, vs, rest, h4, h5, h6⟩ := hbr
  exact ⟨h1, hR.lt hb, t, C, vs, rest, hb, ho, h3, h4, h5, h6⟩

theorem snd_slc_nil {sz : Nat} {x : Opd} {lo hi mx : Option Opd} {o : Oper} (hR : Rel K c X h w) (hE : EnvR c e ts) (hc : chkOp P (.slc sz x lo hi mx) o.op = true)
    (hx : ev e x = .r .nil) (k1 : bound (lo.map (ev e)) 0 = some 0) (k2 : bound (hi.map (ev e)) 0 = some 0) (k3 : bound (mx.map (ev e)) 0 = some 0) (hm : mx ≠ none → hi ≠ none) :
    Done P K c X w (execOp (rho ts) o) (.r .nil) h := by
  cases ho : o.op <;> simp only [ho, chkOp] at hc <;> try (cases hc; done)
  rename_i t y l' h' m'
  simp only [Bool.and_eq_true] at hc
  obtain ⟨⟨⟨⟨hs, hy⟩, c1⟩, c2⟩, c3⟩ := hc
  obtain ⟨el, hd, hs⟩ := slSz_ok hs
  have kx := chkOpd_ok hE hy
  rw [hx] at kx
  have kx' : rho ts y = .slice none 0 0 := kx
  have hrun := run_bounds (P := P) (w := w) (isS := true) hE c1 c2 c3 k1 k2 k3 (Nat.le_refl _) (Nat.le_refl _) (Nat.le_refl _) hm
  refine Done.pure hR (val := .slice none 0 0) ?_ rfl
  simp only [execOp, ho]
  cases m' <;> simp [Instr.sliceAt, run_underlying hd, kx', Instr.slice, szT_ok hs] at hrun ⊢ <;> simp [hrun]

theorem snd_slc_osl {sz : Nat} {x : Opd} {lo hi mx : Option Opd} {o : Oper} {i g off len a b : Nat} {cap : Option Nat} (hR : Rel K c X h w) (hE : EnvR c e ts) (hc : chkOp P (.slc sz x lo hi mx) o.op = true)
    (hx : ev e x = .osl i g off len sz cap) (k1 : bound (lo.map (ev e)) 0 = some a) (k2 : bound (hi.map (ev e)) len = some b) (hab : a ≤ b) (hb : b ≤ len) (hmx : mx = none) (hg : g = c.G i) :
    (a < b ∨ a = 0 → Done P K c X w (execOp (rho ts) o) (.osl i g (off + a * sz) (b - a) sz (cap.map (· - a))) h) ∧
    (a = b → Done P K c X w (execOp (rho ts) o) (.r (.sl [] 0 none)) h) := by
  subst hmx
  cases ho : o.op <;> simp only [ho, chkOp] at hc <;> try (cases hc; done)
  rename_i t y l' h' m'
  simp only [Bool.and_eq_true] at hc
  obtain ⟨⟨⟨⟨hs, hy⟩, c1⟩, c2⟩, c3⟩ := hc
  obtain ⟨el, hd, hs⟩ := slSz_ok hs
  have kx := chkOpd_ok hE hy
  rw [hx] at kx
  simp only [VR] at kx
  obtain ⟨m1, m2, ad, k, m3, m4⟩ := kx
  obtain ⟨rfl, n2, n3, n4⟩ := m4 hg
  have hm' : m' = none := by cases m' <;> first | rfl | cases c3
  subst hm'
  have hrun := run_bounds (P := P) (w := w) (isS := true) (cap := k) hE c1 c2 c3 k1 k2 rfl hab (by omega) (Nat.le_refl _) (fun q => absurd rfl q)
  have hex : (execOp (rho ts) o).run P w = .ok (.value (.slice (if k = a then some ⟨c.β i, off, none⟩ else some ((⟨c.β i, off, none⟩ : Addr).add (a * sz))) (b - a) (k - a))) w := by
    simp only [execOp, ho]
    simp [Instr.sliceAt, run_underlying hd, m3, Instr.slice, szT_ok hs] at hrun ⊢
    simp [hrun]
  refine ⟨fun hlt => Done.pure hR hex ?_, fun hlt => Done.pure hR hex ?_⟩
  · simp only [VR]
    have haddr : (if k = a then some (⟨c.β i, off, none⟩ : Addr) else some ((⟨c.β i, off, none⟩ : Addr).add (a * sz))) = some ⟨c.β i, off + a * sz, none⟩ := by
      rcases hlt with h1 | h1
      · rw [if_neg (by omega), add_lit]
      · subst h1; simp [add_lit]
    rw [haddr]
    refine ⟨m1, m2, _, _, rfl, fun _ => ⟨rfl, by omega, ?_, fun q hq => ?_⟩⟩
    · have : a * sz + (k - a) * sz = k * sz := by rw [← Nat.add_mul]; congr 1; omega
      omega
    · cases cap with
      | none => cases hq
      | some cc => simp at hq; rw [← hq, n4 cc rfl]
  · simp only [VR, RVR]
    subst hlt
    exact ⟨_, k - a, [], by rw [Nat.sub_self], Nat.zero_le _, fun q hq => (by cases hq), trivial, fun u hu => (by cases hu), fun hp => absurd hp (by omega), fun hn => (by first | cases hn | (split at hn <;> cases hn))⟩

theorem snd_slc_oslmax {sz : Nat} {x : Opd} {lo hi mx : Option Opd} {o : Oper} {i g off len a : Nat} {cap : Option Nat} (hR : Rel K c X h w) (hE : EnvR c e ts) (hc : chkOp P (.slc sz x lo hi mx) o.op = true)
    (hx : ev e x = .osl i g off len sz cap) (k1 : bound (lo.map (ev e)) 0 = some a) (k2 : bound (hi.map (ev e)) len = some a) (k3 : bound (mx.map (ev e)) len = some a) (hb : a ≤ len) (hh : hi ≠ none) (hmm : mx ≠ none) (hg : g = c.G i) :
    Done P K c X w (execOp (rho ts) o) (.r (.sl [] 0 (some 0))) h := by
  cases ho : o.op <;> simp only [ho, chkOp] at hc <;> try (cases hc; done)
  rename_i t y l' h' m'
  simp only [Bool.and_eq_true] at hc
  obtain ⟨⟨⟨⟨hs, hy⟩, c1⟩, c2⟩, c3⟩ := hc
  obtain ⟨el, hd, hs⟩ := slSz_ok hs
  have kx := chkOpd_ok hE hy
  rw [hx] at kx
  simp only [VR] at kx
  obtain ⟨m1, m2, ad, k, m3, m4⟩ := kx
  obtain ⟨rfl, n2, n3, n4⟩ := m4 hg
  have k3' : bound (mx.map (ev e)) k = some a := by
    cases mx with
    | none => exact absurd rfl hmm
    | some q => simpa [bound] using k3
  have hrun := run_bounds (P := P) (w := w) (isS := true) (cap := k) hE c1 c2 c3 k1 k2 k3' (Nat.le_refl _) (Nat.le_refl _) (by omega) (fun _ => hh)
  have hex : (execOp (rho ts) o).run P w = .ok (.value (.slice (some ⟨c.β i, off, none⟩) (a - a) (a - a))) w := by
    simp only [execOp, ho]
    cases m' <;> simp [Instr.sliceAt, run_underlying hd, m3, Instr.slice, szT_ok hs] at hrun ⊢ <;> simp [hrun]
  refine Done.pure hR hex ?_
  simp only [VR, RVR]
  exact ⟨some ⟨c.β i, off, none⟩, 0, [], by rw [Nat.sub_self], Nat.zero_le _, fun q hq => (by cases hq; rfl), trivial, fun u hu => (by cases hu), fun hp => absurd hp (by omega), fun hn => (by first | cases hn | (split at hn <;> cases hn))⟩

/-- The model's slice of an array behind a pointer. -/
theorem run_slcA {n sz a b : Nat} {x : Opd} {lo hi : Option Opd} {o : Oper} (hE : EnvR c e ts) (hc : chkOp P (.slcA n sz x lo hi) o.op = true)
    (k1 : bound (lo.map (ev e)) 0 = some a) (k2 : bound (hi.map (ev e)) n = some b) (hab : a ≤ b) (hb : b ≤ n) {ad : Addr} (hp : ∀ y, VR c (ev e x) y → y = .pointer (some ad) ∨ True) :
    ∃ y, VR c (ev e x) (rho ts y) ∧ ∀ ad, rho ts y = .pointer (some ad) → (execOp (rho ts) o).run P w = .ok (.value (.slice (some (if n = a then ad else ad.add (a * sz))) (b - a) (n - a))) w := by
  cases ho : o.op <;> simp only [ho, chkOp] at hc <;> try (cases hc; done)
  rename_i t y l' h' m'
  cases m' <;> simp only at hc <;> try (cases hc; done)
  simp only [Bool.and_eq_true] at hc
  obtain ⟨⟨⟨hs, hy⟩, c1⟩, c2⟩ := hc
  obtain ⟨el, hd, hs⟩ := arT_ok hs
  refine ⟨y, chkOpd_ok hE hy, fun ad had => ?_⟩
  have hrun := run_bounds (P := P) (w := w) (isS := false) (mx := none) (m := none) hE c1 c2 rfl k1 k2 rfl hab hb (Nat.le_refl n) (fun q => absurd rfl q)
  simp only [execOp, ho]
  simp [Instr.sliceAt, run_underlying hd, had, Instr.sureAddr, szT_ok hs] at hrun ⊢
  simp [hrun]

end
end Go.AM
/- Each operation of the abstract machine is borne out by the model's (own work), seventh part: arrays sliced, loads, stores, new memory. -/
namespace Go.AM
section
variable {P : Program} {K : Nat → AC → Code → Prop} {c : Cx} {X : Fr} {h : List Blk} {w : World} {e : Env} {ts : Array Value}

theorem snd_slcA_ptr {n sz a b : Nat} {x : Opd} {lo hi : Option Opd} {o : Oper} {cs : List RV} (hR : Rel K c X h w) (hE : EnvR c e ts) (hc : chkOp P (.slcA n sz x lo hi) o.op = true)
    (hx : ev e x = .r (.ptr cs)) (k1 : bound (lo.map (ev e)) 0 = some a) (k2 : bound (hi.map (ev e)) n = some b) (hab : a ≤ b) (hb : b ≤ n) :
    Done P K c X w (execOp (rho ts) o) (.r (.sl ((cs.drop (a * sz)).take ((b - a) * sz)) (b - a) (some (n - a)))) h := by
  obtain ⟨y, hy, hrun⟩ := run_slcA (P := P) (w := w) hE hc k1 k2 hab hb (ad := ⟨0, 0, none⟩) (fun _ _ => .inr trivial)
  rw [hx] at hy
  simp only [VR, RVR] at hy
  obtain ⟨bl, off, vs, e1, e2, e3, e4⟩ := hy
  refine Done.pure hR (hrun _ e1) ?_
  simp only [VR, RVR]
  refine ⟨_, n - a, (vs.drop (a * sz)).take ((b - a) * sz), rfl, by omega, fun q hq => (by cases hq; rfl), (e3.drop _).take _, (e4.drop _).take _, fun hp => ?_, fun hn => (by cases hn)⟩
  exact ⟨bl, off + a * sz, by rw [if_neg (by omega), add_lit], (e2.drop _).take _⟩

theorem snd_slcA_own {n sz a b : Nat} {x : Opd} {lo hi : Option Opd} {o : Oper} {i g off : Nat} (hR : Rel K c X h w) (hE : EnvR c e ts) (hc : chkOp P (.slcA n sz x lo hi) o.op = true)
    (hx : ev e x = .own i g off) (k1 : bound (lo.map (ev e)) 0 = some a) (k2 : bound (hi.map (ev e)) n = some b) (hab : a ≤ b) (hb : b ≤ n) (hg : g = c.G i) (hfit : off + n * sz ≤ c.Z i) :
    (a < b ∨ a = 0 → Done P K c X w (execOp (rho ts) o) (.osl i g (off + a * sz) (b - a) sz (some (n - a))) h) ∧
    (a = b → Done P K c X w (execOp (rho ts) o) (.r (.sl [] 0 (some (n - a)))) h) := by
  obtain ⟨y, hy, hrun⟩ := run_slcA (P := P) (w := w) hE hc k1 k2 hab hb (ad := ⟨0, 0, none⟩) (fun _ _ => .inr trivial)
  rw [hx] at hy
  simp only [VR] at hy
  obtain ⟨m1, m2, _, m4⟩ := hy
  have e1 := m4 hg
  refine ⟨fun hlt => Done.pure hR (hrun _ e1) ?_, fun hlt => Done.pure hR (hrun _ e1) ?_⟩
  · have haddr : (if n = a then (⟨c.β i, off, none⟩ : Addr) else (⟨c.β i, off, none⟩ : Addr).add (a * sz)) = ⟨c.β i, off + a * sz, none⟩ := by
      rcases hlt with h1 | h1
      · rw [if_neg (by omega), add_lit]
      · subst h1; simp [add_lit]
    rw [haddr]
    simp only [VR]
    refine ⟨m1, m2, _, _, rfl, fun _ => ⟨rfl, by omega, ?_, fun q hq => by cases hq; rfl⟩⟩
    have : a * sz + (n - a) * sz = n * sz := by rw [← Nat.add_mul]; congr 1; omega
    omega
  · subst hlt
    simp only [VR, RVR]
    exact ⟨_, n - a, [], by rw [Nat.sub_self], Nat.zero_le _, fun q hq => (by cases hq; rfl), trivial, fun u hu => (by cases hu), fun hp => absurd hp (by omega), fun hn => (by cases hn)⟩

/-! ### loads -/
theorem loadN_ok (hR : Rel K c X h w) {m : Mem} (hm : m.h = h) {a : AV} {n : Nat} {cs : List AV} {val : Value} (hl : loadN m a n = some cs) (hv : VR c a val) :
    ∃ b o vs, val = .pointer (some ⟨b, o, none⟩) ∧ cs.length = n ∧ VRs c cs vs ∧ Ones vs ∧ ∀ j v, vs[j]? = some v → w.cell? ((⟨b, o, none⟩ : Addr).add j) = some v := by
  unfold loadN at hl
  split at hl <;> try (cases hl; done)
  · rename_i rs'
    split at hl <;> try (cases hl; done)
    rename_i hn
    cases hl
    simp only [VR, RVR] at hv
    obtain ⟨b, o, vs, rfl, ha, h3, h4⟩ := hv
    refine ⟨b, o, vs.take n, rfl, by simp [rs]; omega, rs_ok rfl (h3.take n), h4.take n, fun j v hj => ?_⟩
    obtain ⟨C, t, fr, m1, m2⟩ := ha.take n
    rw [add_lit]
    simp only [World.cell?, hR.mem _ _ m1]
    simpa using m2 j v hj
  · rename_i i g o
    cases hr : rcells m i g with
    | none => simp [hr] at hl
    | some cells =>
      simp only [hr] at hl
      split at hl <;> try (cases hl; done)
      rename_i hn
      cases hl
      obtain ⟨hg, hi, t, C, vs, rest, h1, h2, h3, h4, h5, h6⟩ := rcells_ok hR hm hr
      simp only [VR] at hv
      obtain ⟨_, _, _, k4⟩ := hv
      refine ⟨c.β i, o, (vs.drop o).take n, k4 hg, by simp; omega, (h5.drop o).take n, (h6.drop o).take n, fun j v hj => ?_⟩
      rw [add_lit]
      simp only [World.cell?, h2, Option.isSome_none, Bool.false_eq_true, if_false]
      rw [List.getElem?_take] at hj
      split at hj <;> try (cases hj; done)
      rw [List.getElem?_drop] at hj
      have hlt := getElem?_lt hj
      have : C.toList[o + j]? = some v := by rw [h4, List.getElem?_append_left hlt]; exact hj
      simpa using this

theorem loadV_run (hR : Rel K c X h w) {m : Mem} (hm : m.h = h) {a : AV} {n : Nat} {ag : Bool} {t : TypeId} {v : AV} {val : Value} (hs : szT P t n = true) (hg : agT P t ag = true)
    (hl : loadV m a n ag = some v) (hv : VR c a val) : ∃ b o u, val = .pointer (some ⟨b, o, none⟩) ∧ (loadVar t ⟨b, o, none⟩).run P w = .ok u w ∧ VR c v u := by
  unfold loadV at hl
  cases hc : loadN m a n with
  | none => simp [hc] at hl
  | some cs =>
    simp only [hc] at hl
    obtain ⟨b, o, vs, hval, h1, h2, h3, h4⟩ := loadN_ok hR hm hc hv
    have hlen : vs.length = n := by rw [← h2.length]; exact h1
    cases ag with
    | true =>
      simp only [if_true, Option.some.injEq] at hl
      subst hl
      refine ⟨b, o, .agg vs.toArray, hval, ?_, mkAgg_ok h2 h3⟩
      have hr := run_loadCells_list (P := P) w ⟨b, o, none⟩ vs h4
      rw [hlen] at hr
      simp [loadVar, agT_ok hg, szT_ok hs, hr]
    | false =>
      simp only [Bool.false_eq_true, if_false] at hl
      split at hl <;> try (cases hl; done)
      rename_i v'
      cases hl
      cases vs with
      | nil => exact h2.elim
      | cons u us =>
        refine ⟨b, o, u, hval, ?_, h2.1⟩
        have hc0 := h4 0 u (by simp)
        have : w.cell? ⟨b, o, none⟩ = some u := by simpa [add_lit] using hc0
        simp [loadVar, agT_ok hg, this]

theorem snd_load {n : Nat} {ag : Bool} {a : Opd} {o : Oper} {m : Mem} {v : AV} (hR : Rel K c X m.h w) (hE : EnvR c e ts) (hc : chkOp P (.load n ag a) o.op = true)
    (hl : loadV m (ev e a) n ag = some v) : Done P K c X w (execOp (rho ts) o) v m.h := by
  cases ho : o.op <;> simp only [ho, chkOp] at hc <;> try (cases hc; done)
  rename_i t y
  simp only [Bool.and_eq_true] at hc
  obtain ⟨⟨hs, hg⟩, hy⟩ := hc
  obtain ⟨b, off, u, h1, h2, h3⟩ := loadV_run (P := P) hR rfl hs hg hl (chkOpd_ok hE hy)
  exact Done.pure hR (val := u) (by simp [execOp, ho, h1, Instr.loadAt, Instr.sureAddr, h2]) h3

/-! ### stores -/
theorem setRow_world (w : World) (g : Nat) (cs : Array Value) : (w.setRow g cs).os = w.os ∧ (w.setRow g cs).tape = w.tape ∧ (w.setRow g cs).output = w.output := ⟨rfl, rfl, rfl⟩

theorem storeN_run (hR : Rel K c X h w) {m m' : Mem} (hm : m.h = h) {a : AV} {cs : List AV} {us : List Value} {val : Value} (hst : storeN m a cs = some m') (hv : VR c a val) (hu : VRs c cs us) (h1 : Ones us) :
    ∃ b o w', val = .pointer (some ⟨b, o, none⟩) ∧ (storeCells ⟨b, o, none⟩ us).run P w = .ok () w' ∧ Adv X c w c w' ∧ Rel K c X m'.h w' := by
  subst hm
  unfold storeN at hst
  split at hst <;> try (cases hst; done)
  rename_i i g o
  split at hst <;> try (cases hst; done)
  rename_i cells t g' hb
  split at hst <;> try (cases hst; done)
  rename_i hcond
  obtain ⟨rfl, hfit⟩ := hcond
  cases hst
  obtain ⟨ob, hob, hbr⟩ := hR.blk i _ hb trivial
  obtain ⟨hg, C, rfl, hZ, vs, rest, h4, h5, h6⟩ := hbr
  simp only [VR] at hv
  obtain ⟨_, _, _, k4⟩ := hv
  have hlc := h5.length
  have hlu := hu.length
  have hCl : C.size = vs.length + rest.length := by rw [← Array.length_toList, h4]; simp
  have hrun := run_storeCells_at P (c.β i) o t us 0 C w hob (by omega) h1
  simp only [Nat.add_zero] at hrun
  refine ⟨c.β i, o, _, k4 hg, hrun, ?_⟩
  have hlt : c.β i < w.heap.size := (Array.getElem?_eq_some_iff.1 hob).1
  refine Rel.upd hR hb trivial (o := .cells (C.toList.take o ++ us ++ C.toList.drop (o + us.length)).toArray t (0, 0)) (fun k hk => setRow_other w (c.β i) k _ hk) (setRow_heap w (c.β i) C _ t _ hob) (by simp) rfl rfl rfl ?_
  refine ⟨hg, _, rfl, ?_, vs.take o ++ us ++ vs.drop (o + us.length), rest, ?_, ?_, ?_⟩
  · simp; omega
  · show C.toList.take o ++ us ++ C.toList.drop (o + us.length) = _
    rw [h4, List.take_append_of_le_length (by omega), List.drop_append_of_le_length (by omega)]
    simp
  · show VRs c (cells.take o ++ cs ++ cells.drop (o + cs.length)) (vs.take o ++ us ++ vs.drop (o + us.length))
    rw [hlu]
    exact ((h5.take o).append hu).append (h5.drop _)
  · exact ((h6.take o).append h1).append (h6.drop _)

theorem snd_store {n : Nat} {a v : Opd} {o : Oper} {m m' : Mem} (hR : Rel K c X m.h w) (hE : EnvR c e ts) (hc : chkOp P (.store n a v) o.op = true)
    (ho1 : okV (ev e v) = true) (hn : (ev e v).cells.length = n) (hst : storeN m (ev e a) (ev e v).cells = some m') : Done P K c X w (execOp (rho ts) o) .dead m'.h := by
  cases ho : o.op <;> simp only [ho, chkOp] at hc <;> try (cases hc; done)
  rename_i t y u
  simp only [Bool.and_eq_true] at hc
  obtain ⟨⟨hs, hy⟩, hu⟩ := hc
  obtain ⟨k1, k2⟩ := cells_ok ho1 (chkOpd_ok hE hu)
  obtain ⟨b, off, w', e1, e2, e3, e4⟩ := storeN_run (P := P) hR rfl hst (chkOpd_ok hE hy) k1 k2
  have hsz : (rho ts u).cells.size = n := by rw [← Array.length_toList, ← k1.length]; exact hn
  exact ⟨c, w', .skip, by simp [execOp, ho, e1, Instr.storeAt, Instr.sureAddr, storeVar, szT_ok hs, hsz, e2], .inr ⟨rfl, rfl⟩, e3, e4⟩

/-! ### new memory -/
theorem newBlk_cells {cs : List AV} {C : Array Value} {t : TypeId} {s : Nat} (hv : VRs c cs C.toList) (h1 : Ones C.toList) :
    BlkR K (c.push s C.size) c.n (.cells cs t 0) (.cells C t (0, 0)) :=
  ⟨by simp [Cx.push], C, rfl, by simp [Cx.push], C.toList, [], by simp, VRs.mono (Cx.push_le _ _ _) _ _ hv, h1⟩

theorem own_new (c : Cx) (s z : Nat) : VR (c.push s z) (.own c.n 0 0) (.pointer (some ⟨s, 0, none⟩)) := by
  simp [VR, Cx.push]

theorem Done.newCells (hR : Rel K c X h w) {cs : List AV} {C : Array Value} {t : TypeId} {s : Sem Next} {v : AV} {val : Value} (hv : VRs c cs C.toList) (h1 : Ones C.toList)
    (hs : s.run P w = .ok (.value val) (w.alloc (.cells C t))) (hval : VR (c.push w.heap.size C.size) v val) : Done P K c X w s v (h ++ [.cells cs t 0]) := by
  obtain ⟨a1, a2⟩ := Rel.new hR (.cells cs t 0) (.cells C t (0, 0)) C.size (newBlk_cells hv h1)
  exact ⟨_, _, _, hs, .inl ⟨val, rfl, hval⟩, a1, a2⟩

theorem snd_alloc {t : TypeId} {z : List RV} {o : Oper} (hR : Rel K c X h w) (hc : chkOp P (.alloc t z) o.op = true) : Done P K c X w (execOp (rho ts) o) (.own h.length 0 0) (h ++ [.cells (rs z) t 0]) := by
  cases ho : o.op <;> simp only [ho, chkOp] at hc <;> try (cases hc; done)
  rename_i t'
  simp only [Bool.and_eq_true, beq_iff_eq] at hc
  obtain ⟨rfl, hz⟩ := hc
  obtain ⟨i, v, hi, hv, hk⟩ := zeT_info hz
  rw [hR.len]
  refine Done.newCells hR (C := v.cells) (val := .pointer (some ⟨w.heap.size, 0, none⟩)) (rs_ok rfl (chkRVs_ok hk)) (chkRVs_ones hk) ?_ (own_new _ _ _)
  simp [execOp, ho, Instr.alloc, zeroValue, typeInfo, hi, hv, newVar, newRow]

theorem snd_box {t : TypeId} {x : Opd} {o : Oper} (hR : Rel K c X h w) (hE : EnvR c e ts) (hc : chkOp P (.box t x) o.op = true) (hok : okV (ev e x) = true) :
    Done P K c X w (execOp (rho ts) o) (.own h.length 0 0) (h ++ [.cells (ev e x).cells t 0]) := by
  cases ho : o.op <;> simp only [ho, chkOp] at hc <;> try (cases hc; done)
  rename_i t' y
  simp only [Bool.and_eq_true, beq_iff_eq] at hc
  obtain ⟨rfl, hy⟩ := hc
  obtain ⟨k1, k2⟩ := cells_ok hok (chkOpd_ok hE hy)
  rw [hR.len]
  refine Done.newCells hR (C := (rho ts y).cells) (val := .pointer (some ⟨w.heap.size, 0, none⟩)) k1 k2 ?_ (own_new _ _ _)
  simp [execOp, ho, Instr.box, newVar, newRow]

end
end Go.AM
/- Each operation of the abstract machine is borne out by the model's (own work), eighth part: literals, make, conversions. -/
namespace Go.AM
section
variable {P : Program} {K : Nat → AC → Code → Prop} {c : Cx} {X : Fr} {h : List Blk} {w : World} {e : Env} {ts : Array Value}

theorem foldSet (off : Nat) : ∀ (vs : List Value) (k : Nat) (C : Array Value), off + k + vs.length ≤ C.size →
    ((vs.zipIdx k).foldl (fun cs (p : Value × Nat) => cs.setIfInBounds (off + p.2) p.1) C).toList = C.toList.take (off + k) ++ vs ++ C.toList.drop (off + k + vs.length)
  | [], k, C, _ => by simp
  | v :: vs, k, C, hl => by
    have hl' : off + k + (vs.length + 1) ≤ C.size := by simpa using hl
    rw [List.zipIdx_cons, List.foldl_cons, foldSet off vs (k + 1) _ (by simp; omega)]
    have hlt : off + k < C.toList.length := by simp; omega
    have e1 : (C.setIfInBounds (off + k) v).toList = C.toList.set (off + k) v := by simp
    rw [e1, List.length_cons]
    have e2 : (C.toList.set (off + k) v).take (off + (k + 1)) = C.toList.take (off + k) ++ [v] := by
      rw [show off + (k + 1) = (off + k) + 1 by omega, List.take_succ_eq_append_getElem (by simpa using hlt)]
      simp [List.take_set_of_le]
    have e3 : (C.toList.set (off + k) v).drop (off + (k + 1) + vs.length) = C.toList.drop (off + k + (vs.length + 1)) := by
      rw [List.drop_set_of_lt (by omega)]
      congr 1; omega
    rw [e2, e3]
    simp

theorem fill_ok (place : Nat → Option (Nat × Nat)) : ∀ (ps : List (Nat × Nat × AV)) (qs : List (Nat × Value)) (cs cs' : List AV) (C : Array Value),
    All2 (fun (p : Nat × Nat × AV) (q : Nat × Value) => place q.1 = some (p.1, p.2.1) ∧ VR c p.2.2 q.2) ps qs → fill cs ps = some cs' → VRs c cs C.toList → Ones C.toList →
    ∃ C', Instr.fill place C qs = some C' ∧ VRs c cs' C'.toList ∧ Ones C'.toList ∧ C'.size = C.size
  | [], qs, cs, cs', C, ha, hf, hv, h1 => by
    cases ha
    simp only [fill, Option.some.injEq] at hf
    subst hf
    exact ⟨C, rfl, hv, h1, rfl⟩
  | (o, n, v) :: ps, qs, cs, cs', C, ha, hf, hv, h1 => by
    cases ha with
    | cons hh ht =>
    rename_i q qs
    obtain ⟨i, u⟩ := q
    obtain ⟨hp, hvr⟩ := hh
    simp only at hp hvr
    simp only [fill] at hf
    split at hf <;> try (cases hf; done)
    rename_i hcond
    obtain ⟨hok, hn, hfit⟩ := hcond
    obtain ⟨k1, k2⟩ := cells_ok hok hvr
    have hus : u.cells.size = n := by rw [← Array.length_toList, ← k1.length]; exact hn
    have hcl : cs.length = C.size := by rw [hv.length, Array.length_toList]
    have hfold : (u.cells.zipIdx.foldl (fun cs (x : Value × Nat) => cs.setIfInBounds (o + x.2) x.1) C).toList = C.toList.take o ++ u.cells.toList ++ C.toList.drop (o + u.cells.toList.length) := by
      have := foldSet o u.cells.toList 0 C (by simp; omega)
      rw [← Array.foldl_toList, Array.toList_zipIdx]
      simpa using this
    have hset : setN cs o v.cells = cs.take o ++ v.cells ++ cs.drop (o + v.cells.length) := rfl
    obtain ⟨C', f1, f2, f3, f4⟩ := fill_ok place ps qs (setN cs o v.cells) cs' (u.cells.zipIdx.foldl (fun cs (x : Value × Nat) => cs.setIfInBounds (o + x.2) x.1) C) ht hf
      (by rw [hfold, hset, k1.length]; exact ((hv.take o).append k1).append (hv.drop _)) (by rw [hfold]; exact ((h1.take o).append k2).append (h1.drop _))
    refine ⟨C', ?_, f2, f3, ?_⟩
    · have hcond : ¬ (u.cells.size ≠ n || o + u.cells.size > C.size) = true := by simp [hus]; omega
      simp only [Instr.fill, hp]
      rw [if_neg hcond]
      exact f1
    · rw [f4, ← Array.length_toList, hfold]
      simp; omega

theorem chkParts_ok {t : TypeId} (hE : EnvR c e ts) : ∀ {ps : List (Nat × Nat × Opd)} {qs : List (Nat × Operand)}, chkParts P t ps qs = true →
    All2 (fun (p : Nat × Nat × AV) (q : Nat × Value) => placeOf P t q.1 = some (p.1, p.2.1) ∧ VR c p.2.2 q.2) (evp e ps) (qs.map fun q => (q.1, rho ts q.2))
  | [], [], _ => .nil
  | [], _ :: _, h => by simp [chkParts] at h
  | _ :: _, [], h => by simp [chkParts] at h
  | (off, n, x) :: ps, (i, y) :: qs, h => by
    simp only [chkParts, Bool.and_eq_true] at h
    obtain ⟨⟨h1, h2⟩, h3⟩ := h
    split at h1 <;> try (cases h1; done)
    rename_i o s hp
    simp only [Bool.and_eq_true, beq_iff_eq] at h1
    obtain ⟨rfl, rfl⟩ := h1
    exact .cons ⟨hp, chkOpd_ok hE h2⟩ (chkParts_ok hE h3)

theorem built_of {t : TypeId} {it : TypeInfo} {z : Value} {qs : List (Nat × Value)} {C : Array Value} (hi : P.info? t = some it) (hz : it.zero = some z) (hb : bldT P t = true)
    (hf : Instr.fill (placeOf P t) z.cells qs = some C) : P.built t qs = some C := by
  unfold bldT at hb
  split at hb <;> try (cases hb; done)
  · rename_i n el hd
    obtain ⟨ie, hie⟩ := Option.isSome_iff_exists.1 hb
    have hp : placeOf P t = fun i => some (i * ie.size, ie.size) := by funext i; simp [placeOf, hd, hie]
    rw [hp] at hf
    simp [Program.built, hi, hd, hz, hie, hf]
  · rename_i fs hd
    obtain ⟨pl, hpl⟩ := Option.isSome_iff_exists.1 hb
    have hp : placeOf P t = fun i => pl.toArray[i]? := by funext i; simp [placeOf, hd, hpl]
    rw [hp] at hf
    simp only [Program.built, hi, hd, hz, hpl]
    exact hf

theorem snd_build {z : List RV} {ps : List (Nat × Nat × Opd)} {o : Oper} {cs : List AV} (hR : Rel K c X h w) (hE : EnvR c e ts) (hc : chkOp P (.build z ps) o.op = true)
    (hf : fill (rs z) (evp e ps) = some cs) : Done P K c X w (execOp (rho ts) o) (mkAgg cs) h := by
  cases ho : o.op <;> simp only [ho, chkOp] at hc <;> try (cases hc; done)
  rename_i t parts
  simp only [Bool.and_eq_true] at hc
  obtain ⟨⟨hz, hb⟩, hp⟩ := hc
  obtain ⟨it, zv, hi, hzv, hk⟩ := zeT_info hz
  obtain ⟨C', f1, f2, f3, _⟩ := fill_ok (c := c) (placeOf P t) _ _ _ _ zv.cells (chkParts_ok hE hp) hf (rs_ok rfl (chkRVs_ok hk)) (chkRVs_ones hk)
  have hbuilt := built_of hi hzv hb f1
  have hrun := run_build (P := P) w t (parts.map fun x => (x.1, rho ts x.2)) C' (by simpa using hbuilt)
  refine Done.pure hR (val := .agg C') (by simp [execOp, ho, hrun]) ?_
  have := mkAgg_ok f2 f3
  simpa using this

theorem chkSlit_ok {sz : Nat} (hE : EnvR c e ts) : ∀ {ps : List (Nat × Nat × Opd)} {qs : List (Nat × Operand)}, chkSlit sz ps qs = true →
    All2 (fun (p : Nat × Nat × AV) (q : Nat × Value) => (fun i => some (i * sz, sz)) q.1 = some (p.1, p.2.1) ∧ VR c p.2.2 q.2) (evp e ps) (qs.map fun q => (q.1, rho ts q.2))
  | [], [], _ => .nil
  | [], _ :: _, h => by simp [chkSlit] at h
  | _ :: _, [], h => by simp [chkSlit] at h
  | (off, n, x) :: ps, (i, y) :: qs, h => by
    simp only [chkSlit, Bool.and_eq_true, beq_iff_eq] at h
    obtain ⟨⟨⟨rfl, rfl⟩, h2⟩, h3⟩ := h
    exact .cons ⟨rfl, chkOpd_ok hE h2⟩ (chkSlit_ok hE h3)

/-- A row of zero values. -/
theorem zeros_ok {M : Nat → Option Obj} {z : List RV} {vs : List Value} (hz : RVRs M z vs) (h1 : Ones vs) (n : Nat) :
    RVRs M (repl z n) (List.replicate n vs).flatten ∧ Ones (List.replicate n vs).flatten := by
  refine ⟨rvrs_iff.2 ((All2.replicate (rvrs_iff.1 hz) n).flatten), fun u hu => ?_⟩
  simp only [List.mem_flatten, List.mem_replicate] at hu
  obtain ⟨l, ⟨_, rfl⟩, h2⟩ := hu
  exact h1 u h2

theorem range_flatten (vs : List Value) (n sz : Nat) (hs : vs.length = sz) (hz : 0 < sz ∨ n = 0) :
    ((Array.range (n * sz)).map (vs.toArray[· % vs.toArray.size]!)).toList = (List.replicate n vs).flatten := by
  apply List.ext_getElem?
  intro i
  subst hs
  rcases hz with hz | rfl
  · have key : ∀ n i, ((List.replicate n vs).flatten)[i]? = if i < n * vs.length then vs[i % vs.length]? else none := by
      intro n
      induction n with
      | zero => intro i; simp
      | succ n ih =>
        intro i
        rw [List.replicate_succ, List.flatten_cons]
        by_cases hi : i < vs.length
        · rw [List.getElem?_append_left hi, if_pos (by rw [Nat.add_mul]; omega), Nat.mod_eq_of_lt hi]
        · rw [List.getElem?_append_right (by omega), ih]
          have e1 : (i - vs.length < n * vs.length) ↔ (i < (n + 1) * vs.length) := by rw [Nat.add_mul]; omega
          have e2 : (i - vs.length) % vs.length = i % vs.length := by
            rw [← Nat.mod_eq_sub_mod (by omega)]
          simp only [e1, e2]
    rw [key]
    by_cases hi : i < n * vs.length
    · have hm := Nat.mod_lt i hz
      simp [hi, List.getElem?_eq_getElem hm]
    · simp [hi]
  · simp

theorem snd_slit {t : TypeId} {z : List RV} {len sz : Nat} {ps : List (Nat × Nat × Opd)} {o : Oper} {cs : List AV} (hR : Rel K c X h w) (hE : EnvR c e ts) (hc : chkOp P (.slit t z len sz ps) o.op = true)
    (hf : fill (rs (repl z len)) (evp e ps) = some cs) (hl : cs.length = len * sz) (hsm : len * sz ≤ 16777216) :
    (∀ l, allR cs = some l → Done P K c X w (execOp (rho ts) o) (.r (.sl l len (some len))) h) ∧
    Done P K c X w (execOp (rho ts) o) (.osl h.length 0 0 len sz (some len)) (h ++ [.cells cs t 0]) := by
  cases ho : o.op <;> simp only [ho, chkOp] at hc <;> try (cases hc; done)
  rename_i t' len' parts
  simp only [Bool.and_eq_true, beq_iff_eq] at hc
  obtain ⟨⟨⟨⟨⟨h1, rfl⟩, hs⟩, hz⟩, hzl⟩, hp⟩ := hc
  have hd := slT_ok h1
  obtain ⟨it, zv, hi, hzv, hk⟩ := zeT_info hz
  have hzz : zv.cells.toList.length = sz := by rw [← hzl]; exact (RVRs.length (M := fun _ => none) (chkRVs_ok hk)).symm
  obtain ⟨q1, q2⟩ := zeros_ok (M := c.M) (chkRVs_ok hk) (chkRVs_ones hk) len
  -- the model's zero row
  have hzero : ∃ Z : Array Value, Z.toList = (List.replicate len zv.cells.toList).flatten ∧
      ((if len * sz = 0 then (pure #[] : Sem (Array Value)) else do pure (← zeroValue t).cells).run P w).andThen (fun zero w' => .ok ((Array.range (len * sz)).map (zero[· % zero.size]!)) w') = .ok Z w := by
    by_cases h0 : len * sz = 0
    · refine ⟨#[], ?_, by simp [h0]⟩
      have : (List.replicate len zv.cells.toList).flatten.length = 0 := by
        simp [hzz, h0]
      exact (List.eq_nil_of_length_eq_zero this).symm
    · refine ⟨_, range_flatten zv.cells.toList len sz hzz (.inl (Nat.pos_of_ne_zero fun e => h0 (by simp [e]))), ?_⟩
      simp [h0, zeroValue, typeInfo, hi, hzv]
  obtain ⟨Z, hZ, hrunZ⟩ := hzero
  obtain ⟨C', f1, f2, f3, f4⟩ := fill_ok (c := c) (fun i => some (i * sz, sz)) _ _ _ _ Z (chkSlit_ok hE hp) hf (by rw [hZ]; exact rs_ok rfl q1) (by rw [hZ]; exact q2)
  have hrun : (execOp (rho ts) o).run P w = .ok (.value (.slice (some ⟨w.heap.size, 0, none⟩) len len)) (w.alloc (.cells C' t)) := by
    have hns : ¬ (16777216 < len * sz) := by omega
    have f1' : Instr.fill (fun i => some (i * sz, sz)) Z (parts.toList.map fun x => (x.1, rho ts x.2)) = some C' := f1
    by_cases h0 : len * sz = 0
    · have hz0 : Z = #[] := by
        have := hrunZ
        simp [h0] at this
        rw [← this]; apply Array.ext'; simp
      subst hz0
      have hr0 : Array.map (fun x => (default : Value)) (Array.range 0) = #[] := by apply Array.ext'; simp
      simp [execOp, ho, Instr.buildSlice, run_underlying hd, szT_ok hs, hns, h0]
      rw [hr0, f1']
      simp [newRow]
    · have hz0 : Array.map (fun x => zv.cells[x % zv.cells.size]!) (Array.range (len * sz)) = Z := by
        have := hrunZ
        simpa [h0, zeroValue, typeInfo, hi, hzv] using this
      simp [execOp, ho, Instr.buildSlice, run_underlying hd, szT_ok hs, hns, h0, zeroValue, typeInfo, hi, hzv]
      rw [hz0, f1']
      simp [newRow]
  refine ⟨fun l ha => ?_, ?_⟩
  · obtain ⟨a1, a2⟩ := Rel.newFrozen hR (.cells C' t)
    refine ⟨_, _, _, hrun, .inl ⟨_, rfl, ?_⟩, a1, a2⟩
    rw [allR_ok ha] at f2
    have f2' := rs_back f2
    simp only [VR, RVR]
    refine ⟨_, len, C'.toList, rfl, Nat.le_refl _, fun q hq => (by cases hq; rfl), RVRs.mono a1.le.M _ _ f2', f3, fun _ => ⟨w.heap.size, 0, rfl, C', t, (0, 0), by simp [Cx.frz], fun k v hv => by simpa using hv⟩, fun hn => (by cases hn)⟩
  · rw [hR.len]
    refine Done.newCells hR f2 f3 hrun ?_
    have hsize : C'.size = len * sz := by rw [← Array.length_toList, ← f2.length]; exact hl
    simp [VR, Cx.push, hsize]
    exact ⟨_, _, ⟨rfl, rfl⟩, rfl, Nat.le_refl _, Nat.le_refl _, rfl⟩

end
end Go.AM
/- Each operation of the abstract machine is borne out by the model's (own work), ninth part: make, conversions, appends, copies. -/
namespace Go.AM
section
variable {P : Program} {K : Nat → AC → Code → Prop} {c : Cx} {X : Fr} {h : List Blk} {w : World} {e : Env} {ts : Array Value}

theorem Rel.drew (hR : Rel K c X h w) : Rel K c X h w.drew := hR.world rfl
theorem Adv.drewThen {c' : Cx} {w' : World} (h : Adv X c w.drew c' w') : Adv X c w c' w' := ⟨h.le, h.frame, h.size, h.os, h.tape, h.output, h.fix⟩

theorem snd_s2b {x : Opd} {o : Oper} {s : ByteArray} (hR : Rel K c X h w) (hE : EnvR c e ts) (hc : chkOp P (.s2b x) o.op = true) (hx : ev e x = .r (.lit (.string s))) :
    Done P K c X w (execOp (rho ts) o) (.r (.sl (s.data.toList.map fun b => .lit (.int .u8 b.toNat)) s.size none)) h := by
  cases ho : o.op <;> simp only [ho, chkOp] at hc <;> try (cases hc; done)
  rename_i sT dT y
  simp only [Bool.and_eq_true] at hc
  obtain ⟨⟨h1, h2⟩, h3⟩ := hc
  split at h1 <;> try (cases h1; done)
  rename_i hs
  split at h2 <;> try (cases h2; done)
  rename_i el hd
  unfold intK at h2
  split at h2 <;> try (cases h2; done)
  rename_i k he
  simp at h2; subst h2
  have kx := chkOpd_ok hE h3
  rw [hx] at kx
  have kx' : rho ts y = .string s := kx
  have hrun := run_bytes_of_string (P := P) w sT dT el s hs hd he
  obtain ⟨a1, a2⟩ := Rel.newFrozen hR.drew (.cells (bytesRow s (grownCap w s.size 0 el)) el ((bytesRow s (grownCap w s.size 0 el)).size, (bytesRow s (grownCap w s.size 0 el)).size + 1))
  refine ⟨_, _, .value (.slice (some ⟨w.heap.size, 0, none⟩) s.size (grownCap w s.size 0 el)), by simp [execOp, ho, kx', hrun], .inl ⟨_, rfl, ?_⟩, a1.drewThen, a2⟩
  simp only [VR, RVR]
  refine ⟨_, _, s.data.toList.map fun b => .int .u8 b.toNat, rfl, grownCap_ge w s.size 0 el, fun q hq => (by cases hq), ?_, fun u hu => ?_, fun _ => ⟨w.heap.size, 0, rfl, _, _, _, upd_same _ _ _, fun k v hv => ?_⟩, fun hn => (by cases hn)⟩
  · rw [rvrs_iff]
    exact All2.of_get (by simp) (fun i x y hx hy => by
      simp only [List.getElem?_map, Option.map_eq_some_iff] at hx hy
      obtain ⟨b, hb, rfl⟩ := hx
      obtain ⟨b', hb', rfl⟩ := hy
      rw [hb] at hb'; cases hb'; rfl)
  · simp only [List.mem_map] at hu
    obtain ⟨b, _, rfl⟩ := hu; rfl
  · simp only [Nat.zero_add, bytesRow]
    have hlt := getElem?_lt hv
    rw [Array.getElem?_append_left (by simpa using hlt)]
    simpa using hv

theorem snd_mkmap {o : Oper} (hR : Rel K c X h w) (hc : chkOp P .mkmap o.op = true) : Done P K c X w (execOp (rho ts) o) (.omap h.length) (h ++ [.map []]) := by
  cases ho : o.op <;> simp only [ho, chkOp] at hc <;> try (cases hc; done)
  rename_i t r
  cases r <;> simp only at hc <;> try (cases hc; done)
  obtain ⟨a1, a2⟩ := Rel.new hR (.map []) (.map #[] 0) 0 ⟨by simp [Cx.push], #[], 0, rfl, .nil⟩
  refine ⟨_, _, .value (.map (some w.heap.size)), by simp [execOp, ho, Instr.makeMap], .inl ⟨_, rfl, ?_⟩, a1, a2⟩
  rw [hR.len]
  simp [VR, Cx.push]

theorem snd_mksl {t : TypeId} {z : List RV} {sz bytes : Nat} {len cap : Opd} {o : Oper} {n : Int} (hR : Rel K c X h w) (hE : EnvR c e ts) (hc : chkOp P (.mksl t z sz bytes len cap) o.op = true)
    (h1 : (ev e len).int? = some n) (h2 : (ev e cap).int? = some n) (h0 : 0 ≤ n) (hroom : roomOk n.toNat bytes) (hzl : z.length = sz) (hsz : 0 < sz ∨ n = 0) :
    Done P K c X w (execOp (rho ts) o) (.osl h.length 0 0 n.toNat sz (some n.toNat)) (h ++ [.cells (rs (repl z n.toNat)) t 0]) := by
  cases ho : o.op <;> simp only [ho, chkOp] at hc <;> try (cases hc; done)
  rename_i t' l cc
  simp only [Bool.and_eq_true, beq_iff_eq] at hc
  obtain ⟨⟨⟨⟨⟨⟨ht, hz⟩, _⟩, hs⟩, hb⟩, hl⟩, hcp⟩ := hc
  have hd := slT_ok ht
  obtain ⟨i, zv, hi, hzv, hk⟩ := zeT_info hz
  obtain ⟨k1, e1⟩ := int?_ok h1 (chkOpd_ok hE hl)
  obtain ⟨k2, e2⟩ := int?_ok h2 (chkOpd_ok hE hcp)
  obtain ⟨i', hi', hsi⟩ := szT_info hs
  rw [hi] at hi'; cases hi'
  have hbi := byT_info hb hi
  unfold roomOk at hroom
  have hby : (i.bytes : Int) * n ≤ 281474976710656 := by
    have hh : ((i.bytes * n.toNat : Nat) : Int) ≤ 281474976710656 := by rw [hbi, Nat.mul_comm]; omega
    rw [Int.natCast_mul, Int.toNat_of_nonneg h0] at hh
    exact hh
  have hrun := run_make (P := P) w t' t i zv hd hi hzv k1 k2 n n h0 (Int.le_refl _) hby (by omega)
  have hzz : zv.cells.toList.length = sz := by rw [← hzl]; exact (RVRs.length (M := fun _ => none) (chkRVs_ok hk)).symm
  have hmade : (madeCells zv.cells (n.toNat * i.size)).toList = (List.replicate n.toNat zv.cells.toList).flatten := by
    rw [hsi]
    have := range_flatten zv.cells.toList n.toNat sz hzz (hsz.elim .inl fun h => .inr (by omega))
    rw [← this]
    simp [madeCells]
  obtain ⟨q1, q2⟩ := zeros_ok (M := c.M) (chkRVs_ok hk) (chkRVs_ones hk) n.toNat
  rw [hR.len]
  refine Done.newCells hR (C := madeCells zv.cells (n.toNat * i.size)) (val := .slice (some ⟨w.heap.size, 0, none⟩) n.toNat n.toNat) (by rw [hmade]; exact rs_ok rfl q1) (by rw [hmade]; exact q2) (by simp [execOp, ho, e1, e2, hrun]) ?_
  have hsize : (madeCells zv.cells (n.toNat * i.size)).size = n.toNat * sz := by rw [← Array.length_toList, hmade]; simp [hzz]
  simp [VR, Cx.push, hsize]
  exact ⟨_, _, ⟨rfl, rfl⟩, rfl, (by omega), Nat.le_refl _, rfl⟩

end
end Go.AM
/- Each operation of the abstract machine is borne out by the model's (own work), tenth part: appends, copies. -/
namespace Go.AM
section
variable {P : Program} {K : Nat → AC → Code → Prop} {c : Cx} {X : Fr} {h : List Blk} {w : World} {e : Env} {ts : Array Value}

/-- What a slice reads. -/
theorem slCells_ok (hR : Rel K c X h w) {m : Mem} (hm : m.h = h) {y : AV} {sz n : Nat} {new : List AV} {val : Value} (hs : slCells m y sz = some (new, n)) (hv : VR c y val) :
    ∃ a k us, val = .slice a n k ∧ n ≤ k ∧ new.length = n * sz ∧ VRs c new us ∧ Ones us ∧ (0 < n → ∃ ad, a = some ad ∧ ∀ j v, us[j]? = some v → w.cell? (ad.add j) = some v) := by
  unfold slCells at hs
  split at hs <;> try (cases hs; done)
  · rename_i cs len cap
    split at hs <;> try (cases hs; done)
    rename_i hl
    cases hs
    simp only [VR, RVR] at hv
    obtain ⟨a, k, vs, e1, e2, e3, e4, e5, e6, e7⟩ := hv
    refine ⟨a, k, vs, e1, e2, by simpa [rs] using hl, rs_ok rfl e4, e5, fun hp => ?_⟩
    obtain ⟨b, o, rfl, C, t, fr, m1, m2⟩ := e6 hp
    refine ⟨_, rfl, fun j v hj => ?_⟩
    rw [add_lit]
    simp only [World.cell?, hR.mem _ _ m1]
    simpa using m2 j v hj
  · cases hs
    simp only [VR, RVR] at hv
    exact ⟨none, 0, [], hv, Nat.le_refl _, by simp, trivial, fun u hu => (by cases hu), fun hp => absurd hp (by omega)⟩
  · rename_i i g o len sz' cap
    cases hr : rcells m i g with
    | none => simp [hr] at hs
    | some cs =>
      simp only [hr] at hs
      split at hs <;> try (cases hs; done)
      rename_i hc
      obtain ⟨rfl, hfit⟩ := hc
      cases hs
      obtain ⟨hg, hi, t, C, vs, rest, h1, h2, h3, h4, h5, h6⟩ := rcells_ok hR hm hr
      simp only [VR] at hv
      obtain ⟨_, _, a, k, k1, k2⟩ := hv
      obtain ⟨rfl, k3, k4, k5⟩ := k2 hg
      refine ⟨_, k, (vs.drop o).take (n * sz'), k1, k3, by simp; omega, (h5.drop o).take _, (h6.drop o).take _, fun hp => ⟨_, rfl, fun j v hj => ?_⟩⟩
      rw [add_lit]
      simp only [World.cell?, h2, Option.isSome_none, Bool.false_eq_true, if_false]
      rw [List.getElem?_take] at hj
      split at hj <;> try (cases hj; done)
      rw [List.getElem?_drop] at hj
      have hlt := getElem?_lt hj
      have : C.toList[o + j]? = some v := by rw [h4, List.getElem?_append_left hlt]; exact hj
      simpa using this

theorem run_append_zero {t el : TypeId} {i : TypeInfo} (ht : P.underlying t = some (.slice el)) (hi : P.info? el = some i) (a b : Option Addr) (len k k' : Nat) (hlk : len ≤ k) (ty : TypeId) :
    (Builtin.append_ #[t, t] ty #[.slice a len k, .slice b 0 k']).run P w = .ok (.slice a len k) w := by
  have hf : (Builtin.firstCells i.size 0 (.slice b 0 k')).run P w = .ok #[] w := by
    cases b <;> simp [Builtin.firstCells, loadCells, loadCellsFrom]
  cases a <;> simp [Builtin.append_, run_underlying ht, sizeOf, typeInfo, hi, Builtin.lenOf, hlk, hf, storeCells]

theorem zeroCells_one {z : Value} (h1 : Ones z.cells.toList) (n : Nat) : True := trivial

theorem snd_app {t : TypeId} {z : List RV} {sz bytes : Nat} {x y : Opd} {o : Oper} {m m' : Mem} {v : AV} (hR : Rel K c X m.h w) (hE : EnvR c e ts) (hc : chkOp P (.app t z sz bytes x y) o.op = true)
    (ha : appendA m t sz bytes (ev e x) (ev e y) = some (v, m')) : Done P K c X w (execOp (rho ts) o) v m'.h := by
  simp only [chkOp] at hc
  split at hc <;> try (cases hc; done)
  rename_i x' y' t1 t2 ho
  have ho := bltOf_ok ho
  simp only [Bool.and_eq_true, beq_iff_eq, bne_iff_ne, ne_eq] at hc
  obtain ⟨⟨⟨⟨⟨⟨⟨⟨h1, rfl⟩, hs⟩, hb⟩, hz⟩, hzl⟩, hsz⟩, hx⟩, hy⟩ := hc
  have hd := slT_ok h1
  obtain ⟨i, zv, hi, hzv, hk⟩ := zeT_info hz
  obtain ⟨i', hi', hsi⟩ := szT_info hs
  rw [hi] at hi'; cases hi'
  have hbi := byT_info hb hi
  have kx := chkOpd_ok hE hx
  have ky := chkOpd_ok hE hy
  have hex : ∀ val w', (Builtin.append_ #[t2, t2] o.type #[rho ts x', rho ts y']).run P w = .ok val w' → (execOp (rho ts) o).run P w = .ok (.value val) w' := fun val w' hr => by
    simp [execOp, ho, resolve, invoke, builtin, hr]
  unfold appendA at ha
  cases hsl : slCells m (ev e y) sz with
  | none => simp [hsl] at ha
  | some p =>
  obtain ⟨new, n⟩ := p
  simp only [hsl] at ha
  obtain ⟨ya, yk, us, ey, _, hnl, hus, hones, hyc⟩ := slCells_ok hR rfl hsl ky
  have husl : us.length = n * i.size := by rw [hsi, ← hus.length]; exact hnl
  split at ha
  · -- nil
    rename_i hxe
    rw [hxe] at kx
    have kx' : rho ts x' = .slice none 0 0 := kx
    split at ha
    · rename_i h0
      cases ha
      subst h0
      refine ⟨c, w, _, hex _ _ (by rw [kx', ey]; exact run_append_zero hd hi _ _ _ _ _ (Nat.le_refl _) _), .inl ⟨_, rfl, by rw [hxe]; rfl⟩, Adv.refl X c w, hR⟩
    · rename_i h0
      split at ha <;> try (cases ha; done)
      rename_i hroom
      cases ha
      obtain ⟨ad, rfl, hcell⟩ := hyc (by omega)
      unfold roomOk at hroom
      have hr := run_append_nil (P := P) w t2 o.type t i zv hd hi hzv ad n yk us husl hcell (by omega) (by omega) (by rw [hbi]; omega)
      have hsizeC : (us.toArray ++ Builtin.zeroCells zv.cells (grownCap w n 0 t - n)).size = grownCap w n 0 t * i.size := by
        have hge := grownCap_ge w n 0 t
        have hzz : zv.cells.size = i.size := by rw [hsi, ← hzl, ← Array.length_toList]; exact (RVRs.length (M := fun _ => none) (chkRVs_ok hk)).symm
        simp only [Array.size_append, List.size_toArray, size_zeroCells, hzz, husl, ← Nat.add_mul]
        congr 1; omega
      have hblk : BlkR K (c.push w.drew.heap.size (us.toArray ++ Builtin.zeroCells zv.cells (grownCap w n 0 t - n)).size) c.n (.cells new t 0) (.cells (us.toArray ++ Builtin.zeroCells zv.cells (grownCap w n 0 t - n)) t (0, 0)) :=
        ⟨by simp [Cx.push], _, rfl, by simp [Cx.push], us, _, by rw [Array.toList_append], VRs.mono (Cx.push_le _ _ _) _ _ hus, hones⟩
      obtain ⟨a1, a2⟩ := Rel.new hR.drew (.cells new t 0) (.cells (us.toArray ++ Builtin.zeroCells zv.cells (grownCap w n 0 t - n)) t (0, 0)) _ hblk
      refine ⟨_, _, _, hex _ _ (by rw [kx', ey]; exact hr), .inl ⟨_, rfl, ?_⟩, a1.drewThen, a2⟩
      simp only [VR, hR.len]
      refine ⟨by simp [Cx.push], Nat.zero_le _, _, _, rfl, fun _ => ⟨(by show _ = (⟨upd c.β c.n w.drew.heap.size c.n, 0, none⟩ : Addr); rw [upd_same]; rfl), grownCap_ge w n 0 t, ?_, fun q hq => (by cases hq)⟩⟩
      simp only [Cx.push, upd_same]
      rw [hsizeC, hsi]; omega
  · -- frozen
    rename_i cs len cap hxe
    rw [hxe] at kx
    have kx0 := kx
    simp only [VR, RVR] at kx
    obtain ⟨xa, xk, xs, ex, hlk, hcap, hxs, hxones, hxc, hxn⟩ := kx
    split at ha
    · rename_i h0
      cases ha
      subst h0
      refine ⟨c, w, _, hex _ _ (by rw [ex, ey]; exact run_append_zero hd hi _ _ _ _ _ hlk _), .inl ⟨_, rfl, by rw [hxe, ← ex]; exact kx0⟩, Adv.refl X c w, hR⟩
    · rename_i h0
      split at ha <;> try (cases ha; done)
      rename_i cc
      split at ha <;> try (cases ha; done)
      rename_i hcond
      obtain ⟨hlt, hcl, hroom⟩ := hcond
      cases ha
      obtain ⟨ad, rfl, hcell⟩ := hyc (by omega)
      unfold roomOk at hroom
      have hcc := hcap cc rfl
      have hxl : xs.length = len * i.size := by rw [hsi, ← hxs.length]; exact hcl
      have hzz : zv.cells.size = i.size := by rw [hsi, ← hzl, ← Array.length_toList]; exact (RVRs.length (M := fun _ => none) (chkRVs_ok hk)).symm
      obtain ⟨C, rest, hC, hCs, hr⟩ : ∃ (C : Array Value) (rest : List Value), C.toList = (xs ++ us) ++ rest ∧ C.size = grownCap w (len + n) xk t * i.size ∧
          (Builtin.append_ #[t2, t2] o.type #[.slice xa len xk, .slice (some ad) n yk]).run P w = .ok (.slice (some ⟨w.heap.size, 0, none⟩) (len + n) (grownCap w (len + n) xk t)) (w.drew.alloc (.cells C t)) := by
        have hge := grownCap_ge w (len + n) xk t
        cases xa with
        | none =>
          have hk0 : xk = 0 := hxn rfl
          have hl0 : len = 0 := by omega
          subst hk0 hl0
          have hx0 : xs = [] := List.eq_nil_of_length_eq_zero (by simpa using hxl)
          subst hx0
          have hr := run_append_nil (P := P) w t2 o.type t i zv hd hi hzv ad n yk us husl hcell (by omega) (by omega) (by rw [hbi]; have := hroom.1; rw [Nat.zero_add] at this; omega)
          simp only [Nat.zero_add] at hge ⊢
          refine ⟨_, _, by rw [Array.toList_append]; rfl, ?_, hr⟩
          simp only [Array.size_append, List.size_toArray, size_zeroCells, hzz, husl, ← Nat.add_mul]
          congr 1; omega
        | some xad =>
          have hcx : ∀ j v, xs[j]? = some v → w.cell? (xad.add j) = some v := fun j v hj => by
            have hl : 0 < len := by
              rcases Nat.eq_zero_or_pos len with h | h
              · rw [h] at hxl; simp at hxl; subst hxl; simp at hj
              · exact h
            obtain ⟨b, off, e1, C, tt, fr, m1, m2⟩ := hxc hl
            cases e1
            rw [add_lit]
            simp only [World.cell?, hR.mem _ _ m1]
            simpa using m2 j v hj
          have hr := run_append_grow (P := P) w t2 o.type t i zv hd hi hzv xad len xk xs hxl hcx ad n yk us husl hcell (by omega) (by omega) (growslice_fits (by omega) (by rw [hbi]; exact hroom.1))
          refine ⟨_, _, by rw [Array.toList_append, Array.toList_append], ?_, hr⟩
          simp only [Array.size_append, List.size_toArray, size_zeroCells, hzz, husl, hxl, ← Nat.add_mul]
          congr 1; omega
      have hblk : BlkR K (c.push w.drew.heap.size C.size) c.n (.cells (rs cs ++ new) t 0) (.cells C t (0, 0)) :=
        ⟨by simp [Cx.push], C, rfl, by simp [Cx.push], xs ++ us, rest, hC, VRs.mono (Cx.push_le _ _ _) _ _ ((rs_ok rfl hxs).append hus), hxones.append hones⟩
      obtain ⟨a1, a2⟩ := Rel.new hR.drew (.cells (rs cs ++ new) t 0) (.cells C t (0, 0)) _ hblk
      refine ⟨_, _, _, hex _ _ (by rw [ex, ey]; exact hr), .inl ⟨_, rfl, ?_⟩, a1.drewThen, a2⟩
      simp only [VR, hR.len]
      refine ⟨by simp [Cx.push], Nat.zero_le _, _, _, rfl, fun _ => ⟨(by show _ = (⟨upd c.β c.n w.drew.heap.size c.n, 0, none⟩ : Addr); rw [upd_same]; rfl), grownCap_ge w (len + n) xk t, ?_, fun q hq => (by cases hq)⟩⟩
      simp only [Cx.push, upd_same]
      rw [hCs, hsi]; omega
  · -- owned
    rename_i i0 g len sz' hxe
    rw [hxe] at kx
    have kx0 := kx
    simp only [VR] at kx
    obtain ⟨hin, hgl, xa, xk, ex, hown⟩ := kx
    split at ha <;> try (cases ha; done)
    rename_i cells tb g' hb0
    split at ha <;> try (cases ha; done)
    rename_i hcond
    obtain ⟨rfl, rfl, rfl, hfit, hroom⟩ := hcond
    split at ha
    · rename_i h0
      cases ha
      subst h0
      obtain ⟨ob, hob, hbr⟩ := hR.blk i0 _ hb0 trivial
      obtain ⟨rfl, hlk, hkz, _⟩ := hown hbr.1
      exact ⟨c, w, _, hex _ _ (by rw [ex, ey]; exact run_append_zero hd hi _ _ _ _ _ hlk _), .inl ⟨_, rfl, by rw [hxe, ← ex]; exact kx0⟩, Adv.refl X c w, hR⟩
    · rename_i h0
      cases ha
      obtain ⟨ad, rfl, hcell⟩ := hyc (by omega)
      unfold roomOk at hroom
      obtain ⟨ob, hob, hbr⟩ := hR.blk i0 _ hb0 trivial
      obtain ⟨hg, C, rfl, hZ, vs, rest, h4, h5, h6⟩ := hbr
      obtain ⟨rfl, hlk, hkz, _⟩ := hown hg
      have hvl := h5.length
      have hCl : C.size = vs.length + rest.length := by rw [← Array.length_toList, h4]; simp
      have hzz : zv.cells.size = i.size := by rw [hsi, ← hzl, ← Array.length_toList]; exact (RVRs.length (M := fun _ => none) (chkRVs_ok hk)).symm
      have hlt : c.β i0 < w.heap.size := (Array.getElem?_eq_some_iff.1 hob).1
      have htl : (vs.take (len * i.size)).length = len * i.size := by rw [List.length_take]; rw [hsi]; omega
      by_cases hroom2 : len + n ≤ xk
      · have hfit2 : len * i.size + us.length ≤ C.size := by
          rw [husl, ← Nat.add_mul, hZ, hsi]
          have := Nat.mul_le_mul_right sz' hroom2
          omega
        have hr := run_append_room (P := P) w t2 o.type t i hd hi (c.β i0) len xk C hob ad n yk us husl hcell hones hroom2 hfit2
        have hnew : (C.toList.take (len * i.size) ++ us ++ C.toList.drop (len * i.size + us.length)) = (vs.take (len * i.size) ++ us) ++ C.toList.drop (len * i.size + us.length) := by
          rw [h4, List.take_append_of_le_length (by rw [hsi]; omega)]
        obtain ⟨a1, a2⟩ := Rel.regen hR hb0 trivial (b := .cells (cells.take (len * sz') ++ new) t (g + 1)) (o := .cells (C.toList.take (len * i.size) ++ us ++ C.toList.drop (len * i.size + us.length)).toArray t (0, 0)) (w' := w.setRow (c.β i0) (C.toList.take (len * i.size) ++ us ++ C.toList.drop (len * i.size + us.length)).toArray) (c.β i0) (c.Z i0)
          (fun k _ hk => setRow_other w (c.β i0) k _ hk) (setRow_heap w (c.β i0) C _ t _ hob) (by simp) (.inl rfl) rfl rfl rfl
          ⟨by simp [Cx.regen, hg], _, rfl, by simp [Cx.regen]; omega, vs.take (len * i.size) ++ us, C.toList.drop (len * i.size + us.length), hnew, VRs.mono (Cx.regen_le _ _ _ _) _ _ ((by rw [← hsi]; exact h5.take _ : VRs c (cells.take (len * sz')) (vs.take (len * i.size))).append hus), (h6.take _).append hones⟩
        refine ⟨_, _, _, hex _ _ (by rw [ex, ey]; exact hr), .inl ⟨_, rfl, ?_⟩, a1, a2⟩
        simp only [VR]
        refine ⟨hin, by simp [Cx.regen, hg], _, _, rfl, fun _ => ⟨by simp [Cx.regen], hroom2, by simpa [Cx.regen] using hkz, fun q hq => (by cases hq)⟩⟩
      · have holds : ∀ j v, (vs.take (len * i.size))[j]? = some v → w.cell? ((⟨c.β i0, 0, none⟩ : Addr).add j) = some v := fun j v hj => by
          rw [add_lit]
          simp only [World.cell?, hob, Option.isSome_none, Bool.false_eq_true, if_false]
          rw [List.getElem?_take] at hj
          split at hj <;> try (cases hj; done)
          have hlt2 := getElem?_lt hj
          have : C.toList[j]? = some v := by rw [h4, List.getElem?_append_left hlt2]; exact hj
          simpa using this
        have hr := run_append_grow (P := P) w t2 o.type t i zv hd hi hzv ⟨c.β i0, 0, none⟩ len xk (vs.take (len * i.size)) htl holds ad n yk us husl hcell (by omega) (by omega) (growslice_fits (by omega) (by rw [hbi]; exact hroom.1))
        have hge := grownCap_ge w (len + n) xk t
        have hCs : ((vs.take (len * i.size)).toArray ++ us.toArray ++ Builtin.zeroCells zv.cells (grownCap w (len + n) xk t - (len + n))).size = grownCap w (len + n) xk t * i.size := by
          simp only [Array.size_append, List.size_toArray, size_zeroCells, hzz, husl, htl, ← Nat.add_mul]
          congr 1; omega
        obtain ⟨a1, a2⟩ := Rel.regen hR.drew hb0 trivial (b := .cells (cells.take (len * sz') ++ new) t (g + 1)) (o := .cells ((vs.take (len * i.size)).toArray ++ us.toArray ++ Builtin.zeroCells zv.cells (grownCap w (len + n) xk t - (len + n))) t (0, 0)) (w' := w.drew.alloc (.cells ((vs.take (len * i.size)).toArray ++ us.toArray ++ Builtin.zeroCells zv.cells (grownCap w (len + n) xk t - (len + n))) t)) w.drew.heap.size (grownCap w (len + n) xk t * i.size)
          (fun k hk _ => alloc_old w.drew _ hk) (alloc_new w.drew _) (by rw [alloc_size]; omega) (.inr (Nat.le_refl _)) rfl rfl rfl
          ⟨by simp [Cx.regen, hg], _, rfl, by simp only [Cx.regen, upd_same]; exact hCs, vs.take (len * i.size) ++ us, _, by rw [Array.toList_append, Array.toList_append], VRs.mono (Cx.regen_le _ _ _ _) _ _ ((by rw [← hsi]; exact h5.take _ : VRs c (cells.take (len * sz')) (vs.take (len * i.size))).append hus), (h6.take _).append hones⟩
        refine ⟨_, _, _, hex _ _ (by rw [ex, ey]; exact hr), .inl ⟨_, rfl, ?_⟩, a1.drewThen, a2⟩
        simp only [VR]
        refine ⟨hin, by simp [Cx.regen, hg], _, _, rfl, fun _ => ⟨(by show _ = (⟨upd c.β i0 w.drew.heap.size i0, 0, none⟩ : Addr); rw [upd_same]; rfl), hge, ?_, fun q hq => (by cases hq)⟩⟩
        simp only [Cx.regen, upd_same, hsi]; omega
  · -- owned, with a cap that is known
    rename_i i0 g len sz' cp hxe
    rw [hxe] at kx
    have kx0 := kx
    simp only [VR] at kx
    obtain ⟨hin, hgl, xa, xk, ex, hown⟩ := kx
    split at ha <;> try (cases ha; done)
    rename_i cells tb g' hb0
    split at ha <;> try (cases ha; done)
    rename_i hcond
    obtain ⟨rfl, rfl, rfl, hfit, hroom⟩ := hcond
    split at ha
    · rename_i h0
      cases ha
      subst h0
      obtain ⟨ob, hob, hbr⟩ := hR.blk i0 _ hb0 trivial
      obtain ⟨rfl, hlk, hkz, _⟩ := hown hbr.1
      exact ⟨c, w, _, hex _ _ (by rw [ex, ey]; exact run_append_zero hd hi _ _ _ _ _ hlk _), .inl ⟨_, rfl, by rw [hxe, ← ex]; exact kx0⟩, Adv.refl X c w, hR⟩
    · rename_i h0
      obtain ⟨ad, rfl, hcell⟩ := hyc (by omega)
      unfold roomOk at hroom
      obtain ⟨ob, hob, hbr⟩ := hR.blk i0 _ hb0 trivial
      obtain ⟨hg, C, rfl, hZ, vs, rest, h4, h5, h6⟩ := hbr
      obtain ⟨rfl, hlk, hkz, hcp⟩ := hown hg
      have hcp := hcp cp rfl
      subst hcp
      have hvl := h5.length
      have hCl : C.size = vs.length + rest.length := by rw [← Array.length_toList, h4]; simp
      have hzz : zv.cells.size = i.size := by rw [hsi, ← hzl, ← Array.length_toList]; exact (RVRs.length (M := fun _ => none) (chkRVs_ok hk)).symm
      have hlt : c.β i0 < w.heap.size := (Array.getElem?_eq_some_iff.1 hob).1
      have htl : (vs.take (len * i.size)).length = len * i.size := by rw [List.length_take]; rw [hsi]; omega
      by_cases hroom2 : len + n ≤ xk
      · have hfit2 : len * i.size + us.length ≤ C.size := by
          rw [husl, ← Nat.add_mul, hZ, hsi]
          have := Nat.mul_le_mul_right sz' hroom2
          omega
        have hr := run_append_room (P := P) w t2 o.type t i hd hi (c.β i0) len xk C hob ad n yk us husl hcell hones hroom2 hfit2
        have hnew : (C.toList.take (len * i.size) ++ us ++ C.toList.drop (len * i.size + us.length)) = (vs.take (len * i.size) ++ us) ++ C.toList.drop (len * i.size + us.length) := by
          rw [h4, List.take_append_of_le_length (by rw [hsi]; omega)]
        rw [if_pos hroom2] at ha
        cases ha
        obtain ⟨a1, a2⟩ := Rel.upd hR (b := .cells (cells.take (len * sz') ++ new) t g) (o := .cells (C.toList.take (len * i.size) ++ us ++ C.toList.drop (len * i.size + us.length)).toArray t (0, 0)) (w' := w.setRow (c.β i0) (C.toList.take (len * i.size) ++ us ++ C.toList.drop (len * i.size + us.length)).toArray) hb0 trivial
          (fun k hk => setRow_other w (c.β i0) k _ hk) (setRow_heap w (c.β i0) C _ t _ hob) (by simp) rfl rfl rfl
          ⟨hg, _, rfl, by simp; omega, vs.take (len * i.size) ++ us, C.toList.drop (len * i.size + us.length), hnew, ((by rw [← hsi]; exact h5.take _ : VRs c (cells.take (len * sz')) (vs.take (len * i.size))).append hus), (h6.take _).append hones⟩
        refine ⟨_, _, _, hex _ _ (by rw [ex, ey]; exact hr), .inl ⟨_, rfl, ?_⟩, a1, a2⟩
        simp only [VR]
        exact ⟨hin, by omega, _, _, rfl, fun _ => ⟨rfl, hroom2, hkz, fun q hq => (by cases hq)⟩⟩
      · have holds : ∀ j v, (vs.take (len * i.size))[j]? = some v → w.cell? ((⟨c.β i0, 0, none⟩ : Addr).add j) = some v := fun j v hj => by
          rw [add_lit]
          simp only [World.cell?, hob, Option.isSome_none, Bool.false_eq_true, if_false]
          rw [List.getElem?_take] at hj
          split at hj <;> try (cases hj; done)
          have hlt2 := getElem?_lt hj
          have : C.toList[j]? = some v := by rw [h4, List.getElem?_append_left hlt2]; exact hj
          simpa using this
        have hr := run_append_grow (P := P) w t2 o.type t i zv hd hi hzv ⟨c.β i0, 0, none⟩ len xk (vs.take (len * i.size)) htl holds ad n yk us husl hcell (by omega) (by omega) (growslice_fits (by omega) (by rw [hbi]; exact hroom.1))
        have hge := grownCap_ge w (len + n) xk t
        have hCs : ((vs.take (len * i.size)).toArray ++ us.toArray ++ Builtin.zeroCells zv.cells (grownCap w (len + n) xk t - (len + n))).size = grownCap w (len + n) xk t * i.size := by
          simp only [Array.size_append, List.size_toArray, size_zeroCells, hzz, husl, htl, ← Nat.add_mul]
          congr 1; omega
        rw [if_neg hroom2] at ha
        cases ha
        have hblk : BlkR K (c.push w.drew.heap.size ((vs.take (len * i.size)).toArray ++ us.toArray ++ Builtin.zeroCells zv.cells (grownCap w (len + n) xk t - (len + n))).size) c.n (.cells (cells.take (len * sz') ++ new) t 0) (.cells ((vs.take (len * i.size)).toArray ++ us.toArray ++ Builtin.zeroCells zv.cells (grownCap w (len + n) xk t - (len + n))) t (0, 0)) :=
          ⟨by simp [Cx.push], _, rfl, by simp [Cx.push], vs.take (len * i.size) ++ us, _, by rw [Array.toList_append, Array.toList_append], VRs.mono (Cx.push_le _ _ _) _ _ ((by rw [← hsi]; exact h5.take _ : VRs c (cells.take (len * sz')) (vs.take (len * i.size))).append hus), (h6.take _).append hones⟩
        obtain ⟨a1, a2⟩ := Rel.new hR.drew (.cells (cells.take (len * sz') ++ new) t 0) (.cells ((vs.take (len * i.size)).toArray ++ us.toArray ++ Builtin.zeroCells zv.cells (grownCap w (len + n) xk t - (len + n))) t (0, 0)) _ hblk
        refine ⟨_, _, _, hex _ _ (by rw [ex, ey]; exact hr), .inl ⟨_, rfl, ?_⟩, a1.drewThen, a2⟩
        simp only [VR, hR.len]
        refine ⟨by simp [Cx.push], Nat.zero_le _, _, _, rfl, fun _ => ⟨(by show _ = (⟨upd c.β c.n w.drew.heap.size c.n, 0, none⟩ : Addr); rw [upd_same]; rfl), hge, ?_, fun q hq => (by cases hq)⟩⟩
        simp only [Cx.push, upd_same]
        rw [hCs, hsi]; omega
  · cases ha

end
end Go.AM
/- Each operation of the abstract machine is borne out by the model's (own work), eleventh part: copies, clear, type assertions. -/
namespace Go.AM
section
variable {P : Program} {K : Nat → AC → Code → Prop} {c : Cx} {X : Fr} {h : List Blk} {w : World} {e : Env} {ts : Array Value}

theorem osl_own {i g o len sz : Nat} {cap : Option Nat} {val : Value} (hv : VR c (.osl i g o len sz cap) val) : ∃ a k, val = .slice (some a) len k ∧ VR c (.own i g o) (.pointer (some a)) := by
  simp only [VR] at hv ⊢
  obtain ⟨h1, h2, a, k, h3, h4⟩ := hv
  exact ⟨a, k, h3, h1, h2, ⟨a, rfl⟩, fun eg => by rw [(h4 eg).1]⟩

theorem snd_cpy {sz : Nat} {d s : Opd} {o : Oper} {m m' : Mem} {cs : List AV} {n i g off len : Nat} {cap : Option Nat} (hR : Rel K c X m.h w) (hE : EnvR c e ts) (hc : chkOp P (.cpy sz d s) o.op = true)
    (hs : slCells m (ev e s) sz = some (cs, n)) (hd : ev e d = .osl i g off len sz cap) (hst : storeN m (.own i g off) (cs.take (Nat.min n len * sz)) = some m') :
    Done P K c X w (execOp (rho ts) o) (.r (.lit (.int .i64 (Nat.min n len : Nat)))) m'.h := by
  simp only [chkOp] at hc
  split at hc <;> try (cases hc; done)
  rename_i d' s' t1 t2 ho
  have ho := bltOf_ok ho
  simp only [Bool.and_eq_true] at hc
  obtain ⟨⟨h1, h2⟩, h3⟩ := hc
  obtain ⟨el, hel, hsz⟩ := slSz_ok h1
  have kd := chkOpd_ok hE h2
  rw [hd] at kd
  obtain ⟨a, k, ed, kown⟩ := osl_own kd
  obtain ⟨ya, yk, us, es, _, hnl, hus, hones, hyc⟩ := slCells_ok hR rfl hs (chkOpd_ok hE h3)
  obtain ⟨b, off', w', e1, e2, e3, e4⟩ := storeN_run (P := P) hR rfl hst kown (hus.take _) (hones.take _)
  cases e1
  have hfc : (Builtin.firstCells sz (Nat.min n len) (.slice ya n yk)).run P w = .ok (us.take (Nat.min n len * sz)).toArray w := by
    rcases Nat.eq_zero_or_pos n with h0 | h0
    · have hm0 : Nat.min n len = 0 := by rw [h0]; exact Nat.zero_min len
      rw [hm0]
      cases ya <;> simp [Builtin.firstCells, loadCells, loadCellsFrom]
    · obtain ⟨ad, rfl, hcell⟩ := hyc h0
      refine run_firstCells_some (P := P) w sz (Nat.min n len) ad n yk _ ?_ (fun j v hj => hcell j v ?_)
      · have hml : Nat.min n len ≤ n := Nat.min_le_left _ _
        have hul : us.length = n * sz := by rw [← hus.length]; exact hnl
        rw [List.length_take, hul]
        exact Nat.min_eq_left (Nat.mul_le_mul_right sz hml)
      · rw [List.getElem?_take] at hj
        split at hj
        · exact hj
        · cases hj
  refine ⟨c, w', .value (.int .i64 (Nat.min n len : Nat)), ?_, .inl ⟨_, rfl, rfl⟩, e3, e4⟩
  simp [execOp, ho, resolve, invoke, builtin, Builtin.copy_, run_underlying hel, ed, es, Builtin.lenOf, szT_ok hsz] at hfc e2 ⊢
  simp [hfc, e2, goInt]

theorem snd_cpy0 {sz : Nat} {d s : Opd} {o : Oper} {m : Mem} {cs : List AV} {n : Nat} (hR : Rel K c X m.h w) (hE : EnvR c e ts) (hc : chkOp P (.cpy sz d s) o.op = true)
    (hs : slCells m (ev e s) sz = some (cs, n)) (hd : ∀ v, VR c (ev e d) v → ∃ a k, v = .slice a 0 k) :
    Done P K c X w (execOp (rho ts) o) (.r (.lit (.int .i64 0))) m.h := by
  simp only [chkOp] at hc
  split at hc <;> try (cases hc; done)
  rename_i d' s' t1 t2 ho
  have ho := bltOf_ok ho
  simp only [Bool.and_eq_true] at hc
  obtain ⟨⟨h1, h2⟩, h3⟩ := hc
  obtain ⟨el, hel, hsz⟩ := slSz_ok h1
  obtain ⟨a, k, ed⟩ := hd _ (chkOpd_ok hE h2)
  obtain ⟨ya, yk, us, es, _, hnl, hus, hones, hyc⟩ := slCells_ok hR rfl hs (chkOpd_ok hE h3)
  have hfc : (Builtin.firstCells sz (Nat.min n 0) (.slice ya n yk)).run P w = .ok #[] w := by
    have hm0 : Nat.min n 0 = 0 := Nat.min_zero n
    rw [hm0]
    cases ya <;> simp [Builtin.firstCells, loadCells, loadCellsFrom]
  refine Done.pure hR (val := .int .i64 0) ?_ rfl
  simp [execOp, ho, resolve, invoke, builtin, Builtin.copy_, run_underlying hel, ed, es, Builtin.lenOf, szT_ok hsz] at hfc ⊢
  cases a <;> simp [hfc, goInt, storeCells]

theorem snd_clr0 {z : List RV} {x : Opd} {o : Oper} (hR : Rel K c X h w) (hE : EnvR c e ts) (hc : chkOp P (.clr z x) o.op = true)
    (hx : ∀ v, VR c (ev e x) v → ∃ a k, v = .slice a 0 k) : Done P K c X w (execOp (rho ts) o) unit h := by
  simp only [chkOp] at hc
  split at hc <;> try (cases hc; done)
  rename_i x' t ho
  have ho := bltOf_ok ho
  simp only [Bool.and_eq_true] at hc
  obtain ⟨h1, h2⟩ := hc
  split at h1 <;> try (cases h1; done)
  rename_i el hd
  obtain ⟨a, k, ex⟩ := hx _ (chkOpd_ok hE h2)
  refine Done.pure hR (val := .tuple #[]) ?_ (by simp only [unit, VR]; exact ⟨[], rfl, trivial⟩)
  cases a <;> simp [execOp, ho, resolve, invoke, builtin, Builtin.clear_, run_underlying hd, ex]

theorem snd_clr {z : List RV} {x : Opd} {o : Oper} {m m' : Mem} {i g off len sz : Nat} {cap : Option Nat} (hR : Rel K c X m.h w) (hE : EnvR c e ts) (hc : chkOp P (.clr z x) o.op = true)
    (hx : ev e x = .osl i g off len sz cap) (h0 : len ≠ 0) (hst : storeN m (.own i g off) (rs (repl z len)) = some m') : Done P K c X w (execOp (rho ts) o) unit m'.h := by
  simp only [chkOp] at hc
  split at hc <;> try (cases hc; done)
  rename_i x' t ho
  have ho := bltOf_ok ho
  simp only [Bool.and_eq_true] at hc
  obtain ⟨h1, h2⟩ := hc
  split at h1 <;> try (cases h1; done)
  rename_i el hd
  obtain ⟨it, zv, hi, hzv, hk⟩ := zeT_info h1
  have kx := chkOpd_ok hE h2
  rw [hx] at kx
  obtain ⟨a, k, ex, kown⟩ := osl_own kx
  obtain ⟨q1, q2⟩ := zeros_ok (M := c.M) (chkRVs_ok hk) (chkRVs_ones hk) len
  obtain ⟨b, off', w', e1, e2, e3, e4⟩ := storeN_run (P := P) hR rfl hst kown (rs_ok rfl q1) q2
  cases e1
  have hz : (Builtin.zeroCells zv.cells len).toList = (List.replicate len zv.cells.toList).flatten := by
    by_cases hz0 : zv.cells.toList.length = 0
    · have : zv.cells = #[] := by apply Array.ext'; exact List.eq_nil_of_length_eq_zero hz0
      rw [this]; simp [Builtin.zeroCells]
    · have := range_flatten zv.cells.toList len _ rfl (.inl (Nat.pos_of_ne_zero hz0))
      rw [← this]; simp [Builtin.zeroCells]
  refine ⟨c, w', .value (.tuple #[]), ?_, .inl ⟨_, rfl, by simp only [unit, VR]; exact ⟨[], rfl, trivial⟩⟩, e3, e4⟩
  obtain ⟨l', rfl⟩ : ∃ l', len = l' + 1 := ⟨len - 1, by omega⟩
  simp [execOp, ho, resolve, invoke, builtin, Builtin.clear_, run_underlying hd, ex, zeroValue, typeInfo, hi, hzv]
  rw [hz, e2]
  rfl

theorem snd_tass {t : TypeId} {z : RV} {x : Opd} {o : Oper} {v : Value} {r : AV} (hR : Rel K c X h w) (hE : EnvR c e ts) (hc : chkOp P (.tass t z x) o.op = true) (hx : ev e x = .r (.lit v))
    (hr : (v = .nilIface ∧ r = .tup [.r z, .r (.lit (.bool false))]) ∨ ∃ u y, v = .iface u y ∧ ((u = t ∧ r = .tup [ifaceV y, .r (.lit (.bool true))]) ∨ (u ≠ t ∧ r = .tup [.r z, .r (.lit (.bool false))]))) :
    Done P K c X w (execOp (rho ts) o) r h := by
  cases ho : o.op <;> simp only [ho, chkOp] at hc <;> try (cases hc; done)
  rename_i y xt t' ok
  cases ok <;> (try simp only at hc) <;> try (cases hc; done)
  simp only [Bool.and_eq_true, beq_iff_eq] at hc
  obtain ⟨⟨⟨rfl, h1⟩, h2⟩, h3⟩ := hc
  have kx := chkOpd_ok hE h3
  rw [hx] at kx
  have kx' : rho ts y = v := kx
  split at h2 <;> try (cases h2; done)
  rename_i it hi
  have hzr : ∃ zv, it.zero = some zv ∧ RVR c.M z zv := by
    split at h2 <;> try (cases h2; done)
    · rename_i cs hz
      split at h2 <;> try (cases h2; done)
      have : cs = #[] := by simpa using h2
      subst this
      exact ⟨_, hz, by simp only [RVR]; exact ⟨[], rfl, trivial, fun u hu => (by cases hu)⟩⟩
    · rename_i zv _ hz
      exact ⟨zv, hz, chkRV_ok h2⟩
  obtain ⟨zv, hz, hzr⟩ := hzr
  have hif : ∀ y, VR c (ifaceV y) y := fun y => by
    unfold ifaceV
    split
    · split
      · rename_i cs h0
        have : cs = #[] := by simpa using h0
        subst this
        simp only [VR, RVR]; exact ⟨[], rfl, trivial, fun u hu => (by cases hu)⟩
      · rfl
    · rfl
  have hres : ∃ val, (Instr.typeAssert v xt t true).run P w = .ok val w ∧ VR c r val := by
    cases hd : P.underlying t with
    | none => simp [hd] at h1
    | some d =>
      rcases hr with ⟨rfl, rfl⟩ | ⟨u, y', rfl, ⟨rfl, rfl⟩ | ⟨hne, rfl⟩⟩
      · refine ⟨.tuple #[zv, .bool false], ?_, by simp only [VR]; exact ⟨[zv, .bool false], rfl, hzr, rfl, trivial⟩⟩
        cases d <;> simp_all [Instr.typeAssert, run_underlying hd, zeroValue, typeInfo]
      · refine ⟨.tuple #[y', .bool true], ?_, by simp only [VR]; exact ⟨[y', .bool true], rfl, hif y', rfl, trivial⟩⟩
        cases d <;> simp_all [Instr.typeAssert, run_underlying hd]
      · refine ⟨.tuple #[zv, .bool false], ?_, by simp only [VR]; exact ⟨[zv, .bool false], rfl, hzr, rfl, trivial⟩⟩
        cases d <;> simp_all [Instr.typeAssert, run_underlying hd, zeroValue, typeInfo]
  obtain ⟨val, q1, q2⟩ := hres
  exact Done.pure hR (val := val) (by simp [execOp, ho, kx', q1]) q2

end
end Go.AM
/- Each operation of the abstract machine is borne out by the model's (own work), twelfth part: maps. -/
namespace Go.AM
section
variable {P : Program} {K : Nat → AC → Code → Prop} {c : Cx} {X : Fr} {h : List Blk} {w : World} {e : Env} {ts : Array Value}

/-- Elements compared one by one. -/
def eqArr (d : Nat) (el : TypeId) (sz : Nat) (xs ys : Array Value) : List Nat → Sem Bool
  | [] => pure true
  | i :: is => do
    let a ← part el xs (i * sz)
    let b ← part el ys (i * sz)
    let r ← Op.equalIn d el a b
    if (!r) = true then pure false else eqArr d el sz xs ys is

theorem run_equalIn_array (d : Nat) (t el : TypeId) (n sz : Nat) (xs ys : Array Value) (ht : P.underlying t = some (.array n el)) (hs : szT P el sz = true) :
    (Op.equalIn (d + 1) t (.agg xs) (.agg ys)).run P w = (eqArr d el sz xs ys (List.range n)).run P w := by
  simp only [Op.equalIn, Sem.run_bind, run_underlying ht, szT_ok hs, Result.andThen_ok, Std.Legacy.Range.forIn_eq_forIn_range', Std.Legacy.Range.size, Nat.sub_zero, Nat.add_one_sub_one, Nat.div_one, List.range_eq_range']
  generalize List.range' 0 n = is
  clear ht
  induction is generalizing w with
  | nil => simp [eqArr]
  | cons i is ih =>
    simp only [List.forIn_cons, eqArr, Sem.run_bind, Sem.run_ite]
    generalize (part el xs (i * sz)).run P w = r1
    cases r1 with
    | ok a w1 =>
      simp only [Result.andThen_ok]
      generalize (part el ys (i * sz)).run P w1 = r2
      cases r2 with
      | ok b w2 =>
        simp only [Result.andThen_ok]
        generalize (Op.equalIn d el a b).run P w2 = r3
        cases r3 with
        | ok r w3 =>
          cases r
          · simp only [Result.andThen_ok, Bool.not_false, if_true, Sem.run_pure]
          · simp only [Result.andThen_ok, Bool.not_true, Bool.false_eq_true, if_false, Sem.run_pure]
            exact ih
        | halt x w3 => simp [Result.andThen]
      | halt x w2 => simp [Result.andThen]
    | halt x w1 => simp [Result.andThen]

theorem run_eqArr {M : Nat → Option Obj} (d : Nat) (el : TypeId) (xs ys : Array Value) (hk : ckT P el .i = true) : ∀ (n o : Nat) (as bs : List RV) (t : Bool),
    RVRs M as (xs.toList.drop o) → RVRs M bs (ys.toList.drop o) → rvEqs (List.replicate n .i) as bs = some t → (eqArr (d + 1) el 1 xs ys (List.range' o n)).run P w = .ok t w := by
  have hag : (isAgg el).run P w = .ok false w := by
    simp only [ckT] at hk; split at hk <;> first | (cases hk; done) | (rename_i hd; simp [isAgg, run_underlying hd])
  intro n
  induction n with
  | zero =>
    intro o as bs t ha hb ht
    cases as <;> cases bs <;> simp [rvEqs] at ht
    subst ht; rfl
  | succ n ih =>
    intro o as bs t ha hb ht
    cases as with
    | nil => simp [rvEqs, List.replicate_succ] at ht
    | cons a as =>
    cases bs with
    | nil => simp [rvEqs, List.replicate_succ] at ht
    | cons b bs =>
    simp only [List.replicate_succ, rvEqs] at ht
    cases h1 : rvEq .i a b with
    | none => simp [h1] at ht
    | some p =>
    cases h2 : rvEqs (List.replicate n .i) as bs with
    | none => simp [h1, h2] at ht
    | some q =>
    simp only [h1, h2, Option.some.injEq] at ht
    obtain ⟨u, us, hu⟩ : ∃ u us, xs.toList.drop o = u :: us := by
      cases hh : xs.toList.drop o with
      | nil => rw [hh] at ha; exact ha.elim
      | cons u us => exact ⟨u, us, rfl⟩
    obtain ⟨v, vs, hv⟩ : ∃ u us, ys.toList.drop o = u :: us := by
      cases hh : ys.toList.drop o with
      | nil => rw [hh] at hb; exact hb.elim
      | cons u us => exact ⟨u, us, rfl⟩
    rw [hu] at ha
    rw [hv] at hb
    have hu1 : xs.toList.drop (o + 1) = us := by rw [← List.drop_drop, hu]; rfl
    have hv1 : ys.toList.drop (o + 1) = vs := by rw [← List.drop_drop, hv]; rfl
    have hu0 : xs[o]? = some u := by
      have : (xs.toList.drop o)[0]? = some u := by rw [hu]; rfl
      simpa using this
    have hv0 : ys[o]? = some v := by
      have : (ys.toList.drop o)[0]? = some v := by rw [hv]; rfl
      simpa using this
    have pa : (part el xs (o * 1)).run P w = .ok u w := by simp [part, hag, hu0]
    have pb : (part el ys (o * 1)).run P w = .ok v w := by simp [part, hag, hv0]
    have he : (Op.equalIn (d + 1) el u v).run P w = .ok p w := run_ckEq d hk ha.1 hb.1 h1
    have rest := ih (o + 1) as bs q (by rw [hu1]; exact ha.2) (by rw [hv1]; exact hb.2) h2
    rw [List.range'_succ]
    simp only [eqArr, Sem.run_bind, pa, pb, he, Result.andThen_ok]
    cases p
    · simp at ht; subst ht; rfl
    · simp at ht; subst ht; simpa using rest

theorem keyT_some {t n : Nat} (h : keyT P t (some n) = true) : ∃ el, P.underlying t = some (.array n el) ∧ szT P el 1 = true ∧ ckT P el .i = true := by
  simp only [keyT] at h
  split at h <;> try (cases h; done)
  rename_i m el hd
  simp only [Bool.and_eq_true, beq_iff_eq] at h
  obtain ⟨⟨rfl, h2⟩, h3⟩ := h
  exact ⟨el, hd, h2, h3⟩

theorem rvEq_int {k k' : RV} {p : Bool} (h : rvEq .i k k' = some p) : ∃ q a b, k = .lit (.int q a) ∧ k' = .lit (.int q b) ∧ p = (a == b) := by
  cases k <;> (try (simp [rvEq] at h; done))
  rename_i v
  cases v <;> (try (simp [rvEq] at h; done))
  cases k' <;> (try (simp [rvEq] at h; done))
  rename_i v'
  cases v' <;> (try (simp [rvEq] at h; done))
  simp only [rvEq] at h
  split at h <;> try (cases h; done)
  rename_i hq
  subst hq
  cases h
  exact ⟨_, _, _, rfl, rfl, rfl⟩

theorem run_keyEq {kt : TypeId} {kn : Option Nat} {k k' : RV} {u v : Value} {p : Bool} (hT : keyT P kt kn = true) (hk : RVR c.M k u) (hk' : RVR c.M k' v) (hp : keyEq kn k k' = some p) :
    (Op.equal kt u v).run P w = .ok p w ∧ (kn = none → ∃ q a b, u = .int q a ∧ v = .int q b ∧ p = (a == b)) := by
  cases kn with
  | none =>
    have h1 : rvEq .i k k' = some p := by
      unfold keyEq at hp
      split at hp <;> first | (cases hp; done) | exact hp
    have hc : ckT P kt .i = true := hT
    refine ⟨run_ckEq (P := P) (w := w) 9999 hc hk hk' h1, fun _ => ?_⟩
    obtain ⟨q, a, b, rfl, rfl, rfl⟩ := rvEq_int h1
    exact ⟨q, a, b, hk, hk', rfl⟩
  | some n =>
    obtain ⟨el, hd, hs, hc⟩ := keyT_some hT
    unfold keyEq at hp
    split at hp <;> try (cases hp; done)
    rename_i xs ys
    simp only [RVR] at hk hk'
    obtain ⟨us, rfl, h1, _⟩ := hk
    obtain ⟨vs, rfl, h2, _⟩ := hk'
    refine ⟨?_, fun hn => (by cases hn)⟩
    have := run_equalIn_array (P := P) (w := w) 9999 kt el n 1 us.toArray vs.toArray hd hs
    rw [List.range_eq_range', run_eqArr (P := P) (w := w) (M := c.M) 9998 el us.toArray vs.toArray hc n 0 xs ys p (by simpa using h1) (by simpa using h2) hp] at this
    exact this

def FR (c : Cx) : Option (Nat × AV) → Option (Nat × Value) → Prop
  | none, none => True
  | some (j, v), some (j', u) => j = j' ∧ VR c v u
  | _, _ => False

theorem find_go {kt : TypeId} {kn : Option Nat} {k : RV} {u : Value} (hT : keyT P kt kn = true) (hk : RVR c.M k u) : ∀ (es : List (RV × AV)) (ES : List MapEntry) (i : Nat) (r : Option (Nat × AV)),
    All2 (EntR c) es ES → findK kn k es i = some r →
    ∃ r', FR c r r' ∧ (Instr.findAsking kt u ES i).run P w = .ok r' w ∧ (kn = none → ∀ q, P.underlying kt = some (.int q) → Instr.findNow (.int q) u ES i = some r')
  | [], ES, i, r, ha, hf => by
    cases ha
    simp only [findK] at hf
    split at hf <;> try (cases hf; done)
    cases hf
    exact ⟨none, trivial, rfl, fun _ _ _ => rfl⟩
  | (k', v) :: es, ES, i, r, ha, hf => by
    cases ha with
    | cons hh ht =>
    rename_i E ES
    simp only [findK] at hf
    cases hp : keyEq kn k k' with
    | none => simp [hp] at hf
    | some p =>
    obtain ⟨he, hn⟩ := run_keyEq (P := P) (w := w) hT hk hh.1 hp
    cases p with
    | true =>
      simp only [hp, Option.some.injEq] at hf
      subst hf
      refine ⟨some (i, E.val), ⟨rfl, hh.2⟩, by simp [Instr.findAsking, he], fun hkn q hq => ?_⟩
      obtain ⟨q', a, b, e1, e2, e3⟩ := hn hkn
      have : E.key = .int q' b := e2
      simp [Instr.findNow, Instr.sameNow, e1, this]
      rw [← e3]
    | false =>
      simp only [hp] at hf
      obtain ⟨r', h1, h2, h3⟩ := find_go hT hk es ES (i + 1) r ht hf
      refine ⟨r', h1, by simp [Instr.findAsking, he, h2], fun hkn q hq => ?_⟩
      obtain ⟨q', a, b, e1, e2, e3⟩ := hn hkn
      have : E.key = .int q' b := e2
      simp [Instr.findNow, Instr.sameNow, e1, this]
      rw [← e3]
      have := h3 hkn q hq
      rw [e1] at this
      exact this

theorem find_ok {kt : TypeId} {kn : Option Nat} {k : RV} {u : Value} {es : List (RV × AV)} {ES : List MapEntry} {r : Option (Nat × AV)} (hT : keyT P kt kn = true) (hk : RVR c.M k u)
    (ha : All2 (EntR c) es ES) (hf : findK kn k es 0 = some r) : ∃ r', FR c r r' ∧ (Instr.findKey kt u ES).run P w = .ok r' w := by
  obtain ⟨r', h1, h2, h3⟩ := find_go (P := P) (w := w) hT hk es ES 0 r ha hf
  refine ⟨r', h1, ?_⟩
  cases kn with
  | none =>
    simp only [keyT] at hT
    split at hT <;> try (cases hT; done)
    rename_i q hq
    simp [Instr.findKey, run_underlying hq, h3 rfl q hq]
  | some n =>
    obtain ⟨el, hd, hs, hc⟩ := keyT_some hT
    cases ES with
    | nil =>
      simp [Instr.findAsking] at h2
      simp [Instr.findKey, run_underlying hd, Instr.findNow, h2]
    | cons E ES => simpa [Instr.findKey, run_underlying hd, Instr.findNow, Instr.sameNow] using h2

theorem keyOk_of {kn : Option Nat} {k : RV} : ∀ (es : List (RV × AV)) (i : Nat) (r : Option (Nat × AV)), findK kn k es i = some r → ∀ n, kn = some n → ∃ xs, k = .agg xs ∧ xs.length = n
  | [], i, r, hf, n, hn => by
    subst hn
    simp only [findK] at hf
    split at hf <;> try (cases hf; done)
    rename_i hk
    unfold keyOk at hk
    split at hk <;> try (cases hk; done)
    · rename_i e; cases e
    · rename_i m xs e; cases e; exact ⟨xs, rfl, by simpa using hk⟩
  | (k', v) :: es, i, r, hf, n, hn => by
    subst hn
    simp only [findK] at hf
    cases hp : keyEq (some n) k k' with
    | none => simp [hp] at hf
    | some p =>
      unfold keyEq at hp
      split at hp <;> try (cases hp; done)
      rename_i xs ys
      refine ⟨xs, rfl, ?_⟩
      have hl : ∀ (n : Nat) (as bs : List RV) (t : Bool), rvEqs (List.replicate n .i) as bs = some t → as.length = n := by
        intro n
        induction n with
        | zero => intro as bs t h; cases as <;> cases bs <;> simp [rvEqs] at h ⊢
        | succ n ih =>
          intro as bs t h
          cases as with
          | nil => simp [rvEqs, List.replicate_succ] at h
          | cons a as =>
          cases bs with
          | nil => simp [rvEqs, List.replicate_succ] at h
          | cons b bs =>
          simp only [List.replicate_succ, rvEqs] at h
          cases h1 : rvEq .i a b with
          | none => simp [h1] at h
          | some p =>
          cases h2 : rvEqs (List.replicate n .i) as bs with
          | none => simp [h1, h2] at h
          | some q => simp [ih as bs q h2]
      exact hl n xs ys p hp

theorem run_check {kt : TypeId} {kn : Option Nat} {k : RV} {u : Value} (hT : keyT P kt kn = true) (hk : RVR c.M k u) (hs : ∀ n, kn = some n → ∃ xs, k = .agg xs ∧ xs.length = n) (em : Bool) (d : Nat) :
    (Instr.checkKey em (d + 2) kt u).run P w = .ok () w := by
  cases kn with
  | none =>
    simp only [keyT] at hT
    split at hT <;> try (cases hT; done)
    rename_i q hq
    simp [Instr.checkKey, run_underlying hq]
  | some n =>
    obtain ⟨el, hd, hsz, hc⟩ := keyT_some hT
    obtain ⟨xs, rfl, hl⟩ := hs n rfl
    simp only [RVR] at hk
    obtain ⟨us, rfl, h1, _⟩ := hk
    have hag : (isAgg el).run P w = .ok false w := by
      simp only [ckT] at hc; split at hc <;> first | (cases hc; done) | (rename_i hd; simp [isAgg, run_underlying hd])
    have hul : us.length = n := by rw [← h1.length]; exact hl
    have hq : ∃ q, P.underlying el = some (.int q) := by
      simp only [ckT] at hc; split at hc <;> first | (cases hc; done) | (rename_i q hd; exact ⟨q, hd⟩)
    obtain ⟨q, hq⟩ := hq
    rw [show d + 2 = (d + 1) + 1 from rfl, Instr.checkKey]
    simp only [Sem.run_bind, run_underlying hd, szT_ok hsz, Result.andThen_ok, Std.Legacy.Range.forIn_eq_forIn_range', Std.Legacy.Range.size, Nat.sub_zero, Nat.add_one_sub_one, Nat.div_one]
    have key : ∀ (m o : Nat), o + m ≤ us.length → (forIn (List.range' o m) PUnit.unit (fun (i : Nat) (_ : PUnit) => do
        let __do_lift ← sizeOf el
        let __do_lift ← part el us.toArray (i * __do_lift)
        Instr.checkKey em (d + 1) el __do_lift
        pure (ForInStep.yield PUnit.unit)) : Sem PUnit).run P w = .ok PUnit.unit w := by
      intro m
      induction m with
      | zero => intro o _; simp
      | succ m ih =>
        intro o ho
        have hlt : o < us.length := by omega
        have pa : (part el us.toArray (o * 1)).run P w = .ok us[o] w := by simp [part, hag, hlt]
        have ck : (Instr.checkKey em (d + 1) el us[o]).run P w = .ok () w := by simp [Instr.checkKey, run_underlying hq]
        rw [List.range'_succ, List.forIn_cons]
        simp only [Sem.run_bind, szT_ok hsz, Result.andThen_ok, pa, ck, Sem.run_pure]
        exact ih (o + 1) (by omega)
    have := key n 0 (by omega)
    simp only [Sem.run_pure, Result.andThen_ok] at this ⊢
    simp only [this, Result.andThen_ok]

theorem run_getMap {r : Nat} {es : Array MapEntry} {cl : Nat} (h : w.heap[r]? = some (.map es cl)) : (getObj r).run P w = .ok (.map es cl) w := by simp [getObj, Sem.run, h]

/-- A map's block. -/
theorem omap_ok (hR : Rel K c X h w) {m : Mem} (hm : m.h = h) {i : Nat} {es : List (RV × AV)} {val : Value} (hb : m.h[i]? = some (.map es)) (hv : VR c (.omap i) val) :
    ∃ ES cl, val = .map (some (c.β i)) ∧ w.heap[c.β i]? = some (.map ES cl) ∧ All2 (EntR c) es ES.toList ∧ c.G i = 0 := by
  subst hm
  obtain ⟨o, ho, hg, ES, cl, rfl, ha⟩ := hR.blk i _ hb trivial
  simp only [VR] at hv
  obtain ⟨_, l, rfl, hl⟩ := hv
  exact ⟨ES, cl, by rw [hl hg], ho, ha, hg⟩

theorem snd_lenM {x : Opd} {o : Oper} {m : Mem} {i : Nat} {es : List (RV × AV)} (hR : Rel K c X m.h w) (hE : EnvR c e ts) (hc : chkOp P (.lenM x) o.op = true)
    (hx : ev e x = .omap i) (hb : m.h[i]? = some (.map es)) : Done P K c X w (execOp (rho ts) o) (.r (.lit (.int .i64 es.length))) m.h := by
  simp only [chkOp] at hc
  split at hc <;> try (cases hc; done)
  rename_i x' t ho
  have ho := bltOf_ok ho
  simp only [Bool.and_eq_true] at hc
  obtain ⟨h1, h2⟩ := hc
  split at h1 <;> try (cases h1; done)
  rename_i kt el hd
  have kx := chkOpd_ok hE h2
  rw [hx] at kx
  obtain ⟨ES, cl, ev', hh, ha, _⟩ := omap_ok hR rfl hb kx
  refine Done.pure hR (val := .int .i64 es.length) ?_ rfl
  have hl : es.length = ES.size := ha.length
  simp [execOp, ho, resolve, invoke, builtin, Builtin.len_, run_underlying hd, ev', run_getMap hh, goInt, hl]

theorem snd_look {kn : Option Nat} {z : RV} {ok : Bool} {mp k : Opd} {o : Oper} {m : Mem} {i : Nat} {es : List (RV × AV)} {kv : RV} {r : Option (Nat × AV)} (hR : Rel K c X m.h w) (hE : EnvR c e ts) (hc : chkOp P (.look kn z ok mp k) o.op = true)
    (hm : ev e mp = .omap i) (hk : ev e k = .r kv) (hb : m.h[i]? = some (.map es)) (hf : findK kn kv es 0 = some r) :
    Done P K c X w (execOp (rho ts) o) (match (generalizing := false) r with | some (_, v) => (if ok then .tup [v, .r (.lit (.bool true))] else v) | none => (if ok then .tup [.r z, .r (.lit (.bool false))] else .r z)) m.h := by
  cases ho : o.op <;> simp only [ho, chkOp] at hc <;> try (cases hc; done)
  rename_i t y j ok'
  simp only [Bool.and_eq_true, beq_iff_eq] at hc
  obtain ⟨⟨⟨rfl, h1⟩, h2⟩, h3⟩ := hc
  split at h1 <;> try (cases h1; done)
  rename_i kt el hd
  simp only [Bool.and_eq_true] at h1
  obtain ⟨hT, hz⟩ := h1
  have ky := chkOpd_ok hE h2
  have kk := chkOpd_ok hE h3
  rw [hm] at ky
  rw [hk] at kk
  obtain ⟨ES, cl, e1, hh, ha, _⟩ := omap_ok hR rfl hb ky
  obtain ⟨r', hr, hrun⟩ := find_ok (P := P) (w := w) (c := c) hT kk ha hf
  have hchk := run_check (P := P) (w := w) (c := c) hT kk (keyOk_of es 0 r hf) ES.isEmpty 9998
  have hzr : ∃ i zv, P.info? el = some i ∧ i.zero = some zv ∧ RVR c.M z zv := by
    unfold zvT at hz
    split at hz <;> try (cases hz; done)
    rename_i i hi
    split at hz <;> try (cases hz; done)
    rename_i zv hzv
    exact ⟨i, zv, hi, hzv, chkRV_ok hz⟩
  obtain ⟨it, zv, hi, hzv, hzr⟩ := hzr
  cases r with
  | none =>
    cases r' with
    | some x => exact hr.elim
    | none =>
    cases ok
    · exact Done.pure hR (val := zv) (by simp [execOp, ho, Instr.lookup, run_underlying hd, e1, run_getMap hh, hchk, hrun, zeroValue, typeInfo, hi, hzv]) hzr
    · exact Done.pure hR (val := .tuple #[zv, .bool false]) (by simp [execOp, ho, Instr.lookup, run_underlying hd, e1, run_getMap hh, hchk, hrun, zeroValue, typeInfo, hi, hzv]) (by simp only [VR]; exact ⟨[zv, .bool false], rfl, hzr, rfl, trivial⟩)
  | some p =>
    obtain ⟨n, v⟩ := p
    cases r' with
    | none => exact hr.elim
    | some q =>
    obtain ⟨n', u⟩ := q
    obtain ⟨rfl, hvu⟩ := hr
    cases ok
    · exact Done.pure hR (val := u) (by simp [execOp, ho, Instr.lookup, run_underlying hd, e1, run_getMap hh, hchk, hrun]) hvu
    · exact Done.pure hR (val := .tuple #[u, .bool true]) (by simp [execOp, ho, Instr.lookup, run_underlying hd, e1, run_getMap hh, hchk, hrun]) (by simp only [VR]; exact ⟨[u, .bool true], rfl, hvu, rfl, trivial⟩)

theorem sameBits_ints (d : Nat) {M : Nat → Option Obj} : ∀ (n : Nat) (as bs : List RV) (us vs : List Value), rvEqs (List.replicate n .i) as bs = some true → RVRs M as us → RVRs M bs vs →
    us.length = vs.length ∧ ((vs.zip us).all fun (x, y) => Instr.sameBits d x y) = true := by
  intro n
  induction n with
  | zero =>
    intro as bs us vs h ha hb
    cases as <;> cases bs <;> simp [rvEqs] at h
    cases us <;> cases vs <;> simp [RVRs] at ha hb ⊢
  | succ n ih =>
    intro as bs us vs h ha hb
    cases as with
    | nil => simp [rvEqs, List.replicate_succ] at h
    | cons a as =>
    cases bs with
    | nil => simp [rvEqs, List.replicate_succ] at h
    | cons b bs =>
    cases us with
    | nil => exact ha.elim
    | cons u us =>
    cases vs with
    | nil => exact hb.elim
    | cons v vs =>
    simp only [List.replicate_succ, rvEqs] at h
    cases h1 : rvEq .i a b with
    | none => simp [h1] at h
    | some p =>
    cases h2 : rvEqs (List.replicate n .i) as bs with
    | none => simp [h1, h2] at h
    | some q =>
    simp [h1, h2] at h
    obtain ⟨rfl, rfl⟩ := h
    obtain ⟨q1, q2⟩ := ih as bs us vs h2 ha.2 hb.2
    obtain ⟨kk, x, y, rfl, rfl, exy⟩ := rvEq_int h1
    have exy : x = y := by simpa using exy
    have eu : u = .int kk x := ha.1
    have ev' : v = .int kk y := hb.1
    subst eu ev' exy
    refine ⟨by simp [q1], ?_⟩
    simp only [List.zip_cons_cons, List.all_cons, q2, Bool.and_true]
    cases d <;> simp [Instr.sameBits]

theorem sameBits_key {kt : TypeId} {kn : Option Nat} {k k' : RV} {u v : Value} (hk : RVR c.M k u) (hk' : RVR c.M k' v) (hp : keyEq kn k k' = some true) : Instr.sameBits 10000 v u = true := by
  unfold keyEq at hp
  split at hp
  · rename_i xs ys
    split at hp <;> try (cases hp; done)
    rename_i n
    simp only [RVR] at hk hk'
    obtain ⟨us, rfl, h1, _⟩ := hk
    obtain ⟨vs, rfl, h2, _⟩ := hk'
    obtain ⟨q1, q2⟩ := sameBits_ints 9999 n xs ys us vs hp h1 h2
    simp only [Instr.sameBits, List.size_toArray, q1, beq_self_eq_true, Bool.true_and]
    exact q2
  · split at hp <;> try (cases hp; done)
    obtain ⟨kk, x, y, rfl, rfl, exy⟩ := rvEq_int hp
    have exy : x = y := by simpa using exy
    have eu : u = .int kk x := hk
    have ev' : v = .int kk y := hk'
    subst eu ev' exy
    simp [Instr.sameBits]

theorem findK_at {kn : Option Nat} {k : RV} {v : AV} {j : Nat} : ∀ (es : List (RV × AV)) (i : Nat), findK kn k es i = some (some (j, v)) → i ≤ j ∧ ∃ k', es[j - i]? = some (k', v) ∧ keyEq kn k k' = some true
  | [], i, h => by simp only [findK] at h; split at h <;> simp at h
  | (k', v') :: es, i, h => by
    simp only [findK] at h
    cases hp : keyEq kn k k' with
    | none => simp [hp] at h
    | some p =>
    cases p with
    | true => simp [hp] at h; obtain ⟨rfl, rfl⟩ := h; exact ⟨Nat.le_refl _, k', by simp, hp⟩
    | false =>
      simp only [hp] at h
      obtain ⟨h1, k'', h2, h3⟩ := findK_at es (i + 1) h
      refine ⟨by omega, k'', ?_, h3⟩
      rw [show j - i = (j - (i + 1)) + 1 by omega]; simpa using h2

theorem setMap_run {r : Nat} {es es' : Array MapEntry} {cl cl' : Nat} (h : w.heap[r]? = some (.map es cl)) :
    (setObj r (.map es' cl')).run P w = .ok () { w with heap := w.heap.setIfInBounds r (.map es' cl') } := by simp [setObj, Sem.run, h]

theorem setMap_rel (hR : Rel K c X h w) {i : Nat} {es es2 : List (RV × AV)} {ES ES2 : Array MapEntry} {cl cl2 : Nat} (hb : h[i]? = some (.map es)) (hh : w.heap[c.β i]? = some (.map ES cl)) (hg : c.G i = 0)
    (ha : All2 (EntR c) es2 ES2.toList) :
    Adv X c w c { w with heap := w.heap.setIfInBounds (c.β i) (.map ES2 cl2) } ∧ Rel K c X (h.set i (.map es2)) { w with heap := w.heap.setIfInBounds (c.β i) (.map ES2 cl2) } := by
  have hlt : c.β i < w.heap.size := (Array.getElem?_eq_some_iff.1 hh).1
  exact Rel.upd hR hb trivial (o := .map ES2 cl2) (fun k hk => by simp [Array.getElem?_setIfInBounds, Ne.symm hk]) (by simp [Array.getElem?_setIfInBounds, hlt]) (by simp) rfl rfl rfl ⟨hg, ES2, cl2, rfl, ha⟩

theorem snd_mupd {kn : Option Nat} {mp k v : Opd} {o : Oper} {m : Mem} {i : Nat} {es : List (RV × AV)} {kv : RV} {r : Option (Nat × AV)} (hR : Rel K c X m.h w) (hE : EnvR c e ts) (hc : chkOp P (.mupd kn mp k v) o.op = true)
    (hm : ev e mp = .omap i) (hk : ev e k = .r kv) (hb : m.h[i]? = some (.map es)) (hf : findK kn kv es 0 = some r) :
    Done P K c X w (execOp (rho ts) o) .dead (m.h.set i (.map (match r with | some (j, _) => es.set j (kv, ev e v) | none => es ++ [(kv, ev e v)]))) := by
  cases ho : o.op <;> simp only [ho, chkOp] at hc <;> try (cases hc; done)
  rename_i t y j u
  simp only [Bool.and_eq_true] at hc
  obtain ⟨⟨⟨h1, h2⟩, h3⟩, h4⟩ := hc
  split at h1 <;> try (cases h1; done)
  rename_i kt el hd
  have ky := chkOpd_ok hE h2
  have kk := chkOpd_ok hE h3
  have kv' := chkOpd_ok hE h4
  rw [hm] at ky
  rw [hk] at kk
  obtain ⟨ES, cl, e1, hh, ha, hg⟩ := omap_ok hR rfl hb ky
  obtain ⟨r', hr, hrun⟩ := find_ok (P := P) (w := w) (c := c) h1 kk ha hf
  have hchk := run_check (P := P) (w := w) (c := c) h1 kk (keyOk_of es 0 r hf) false 9998
  cases r with
  | none =>
    cases r' with
    | some x => exact hr.elim
    | none =>
    obtain ⟨q1, q2⟩ := setMap_rel hR hb hh hg (cl2 := cl + 1) (ES2 := ES.push { key := rho ts j, val := rho ts u, born := cl }) (es2 := es ++ [(kv, ev e v)]) (by
      rw [Array.toList_push]; exact ha.append (.cons ⟨kk, kv'⟩ .nil))
    exact ⟨c, _, .skip, by simp [execOp, ho, Instr.mapUpdate, run_underlying hd, e1, run_getMap hh, hchk, hrun, setMap_run hh], .inr ⟨rfl, rfl⟩, q1, q2⟩
  | some p =>
    obtain ⟨n, v0⟩ := p
    cases r' with
    | none => exact hr.elim
    | some q =>
    obtain ⟨n', u0⟩ := q
    obtain ⟨rfl, _⟩ := hr
    obtain ⟨_, k', hk', hkeq⟩ := findK_at es 0 hf
    simp only [Nat.sub_zero] at hk'
    obtain ⟨E, hE1, hE2⟩ := ha.get hk'
    have hsame := sameBits_key (kt := kt) kk hE2.1 hkeq
    have hst : (Instr.keyThatStays (((ES[n]?).map (·.key)).getD (rho ts j)) (rho ts j)).run P w = .ok (rho ts j) w := by
      have : ES[n]? = some E := by simpa using hE1
      simp [this, Instr.keyThatStays, hsame]
    obtain ⟨q1, q2⟩ := setMap_rel hR hb hh hg (cl2 := cl) (ES2 := ES.modify n fun e => { e with key := rho ts j, val := rho ts u }) (es2 := es.set n (kv, ev e v)) (by
      have : (ES.modify n fun e => { e with key := rho ts j, val := rho ts u }).toList = ES.toList.set n { E with key := rho ts j, val := rho ts u } := by
        apply List.ext_getElem?
        intro q
        simp at hE1
        by_cases e : n = q
        · subst e
          have : n < ES.toList.length := by simpa using (Array.getElem?_eq_some_iff.1 hE1).1
          simp [List.getElem?_modify, List.getElem?_set_self this, hE1]
        · simp [List.getElem?_modify, List.getElem?_set_ne e, e]
      rw [this]
      refine ha.set (R := EntR c) (x := (kv, ev e v)) ?_ n
      exact ⟨kk, kv'⟩)
    exact ⟨c, _, .skip, by simp [execOp, ho, Instr.mapUpdate, run_underlying hd, e1, run_getMap hh, hchk, hrun, hst, setMap_run hh], .inr ⟨rfl, rfl⟩, q1, q2⟩

end
end Go.AM
