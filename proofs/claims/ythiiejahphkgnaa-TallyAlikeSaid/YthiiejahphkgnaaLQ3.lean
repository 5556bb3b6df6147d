/- The machine that the proofs walk by, and what the functions compute: part 3 of the common texts. No condition. (Own work.) -/
import Derived.Test.YthiiejahphkgnaaLQ2
set_option linter.unusedVariables false
set_option linter.unusedSimpArgs false
/- Slices that are nil or not, in one form (own work). -/
namespace Go.AM

abbrev i64 (n : Int) : AV := .r (.lit (.int .i64 n))
abbrev u8 (n : Int) : AV := .r (.lit (.int .u8 n))
abbrev bo (b : Bool) : AV := .r (.lit (.bool b))
abbrev fnv (f : FuncId) : AV := .r (.fn f [] [])

def lenOf : AV → Option Nat
  | .r .nil => some 0
  | .r (.sl _ len _) => some len
  | .osl _ _ _ len _ _ => some len
  | _ => none
def atOf (sz : Nat) (x : AV) (n : Int) : Option AV :=
  match x with
  | .r (.sl cs len _) => if 0 ≤ n ∧ n < (len : Int) then some (.r (.ptr (cs.drop (n.toNat * sz)))) else none
  | .osl i g o len sz' _ => if 0 ≤ n ∧ n < (len : Int) ∧ sz' = sz then some (.own i g (o + n.toNat * sz)) else none
  | _ => none
def slcOf (m : Mem) (sz : Nat) (x : AV) (lo hi mx : Option AV) : Option AV :=
  match stepOp [(0, x), (1, lo.getD .dead), (2, hi.getD .dead), (3, mx.getD .dead)] m (.slc sz (.t 0) (lo.map fun _ => .t 1) (hi.map fun _ => .t 2) (mx.map fun _ => .t 3)) with
  | some (v, _) => some v
  | none => none

theorem so_lenS (e : Env) (m : Mem) (x : Opd) : stepOp e m (.lenS x) = (lenOf (ev e x)).map fun n => (i64 n, m) := by
  simp only [stepOp]
  cases h : ev e x <;> try rfl
  rename_i v
  cases v <;> rfl

theorem so_idxS (e : Env) (m : Mem) (sz : Nat) (x i : Opd) : stepOp e m (.idxS sz x i) = match (ev e i).int? with | some n => (atOf sz (ev e x) n).map fun v => (v, m) | none => none := by
  simp only [stepOp]
  cases hi : (ev e i).int? with
  | none => simp
  | some n =>
  cases h : ev e x <;> try rfl
  · rename_i v
    cases v <;> try rfl
    simp only [atOf]; split <;> rfl
  · simp only [atOf]; split <;> rfl

theorem so_slc (e : Env) (m : Mem) (sz : Nat) (x : Opd) (lo hi mx : Option Opd) : stepOp e m (.slc sz x lo hi mx) = (slcOf m sz (ev e x) (lo.map (ev e)) (hi.map (ev e)) (mx.map (ev e))).map fun v => (v, m) := by
  have h : stepOp e m (.slc sz x lo hi mx) = stepOp [(0, ev e x), (1, (lo.map (ev e)).getD .dead), (2, (hi.map (ev e)).getD .dead), (3, (mx.map (ev e)).getD .dead)] m (.slc sz (.t 0) ((lo.map (ev e)).map fun _ => .t 1) ((hi.map (ev e)).map fun _ => .t 2) ((mx.map (ev e)).map fun _ => .t 3)) := by
    cases lo <;> cases hi <;> cases mx <;> simp [stepOp, ev, eget]
  rw [h]
  unfold slcOf
  cases hs : stepOp [(0, ev e x), (1, (lo.map (ev e)).getD .dead), (2, (hi.map (ev e)).getD .dead), (3, (mx.map (ev e)).getD .dead)] m (.slc sz (.t 0) ((lo.map (ev e)).map fun _ => .t 1) ((hi.map (ev e)).map fun _ => .t 2) ((mx.map (ev e)).map fun _ => .t 3)) with
  | none => rfl
  | some q =>
    obtain ⟨v, m'⟩ := q
    have := (read_step (base := 0) (H := m.h) (wr := m.wr) (h := m.h) rfl (fun _ _ => rfl) hs).1
    rw [this]; rfl

/-! ### each operation, in an equation of its own -/
theorem so_mov (e : Env) (m : Mem) (x : Opd) : stepOp e m (.mov x) = some (ev e x, m) := rfl
theorem so_pick (e : Env) (m : Mem) (c a b : Opd) : stepOp e m (.pick c a b) = (match (ev e c).bool? with
    | some t => some (if t then ev e a else ev e b, m)
    | none => none) := rfl
theorem so_alloc (e : Env) (m : Mem) (t : TypeId) (z : List RV) : stepOp e m (.alloc t z) = some (.own m.h.length 0 0, { m with h := m.h ++ [.cells (rs z) t 0] }) := rfl
theorem so_box (e : Env) (m : Mem) (t : TypeId) (x : Opd) : stepOp e m (.box t x) = if okV (ev e x) then some (.own m.h.length 0 0, { m with h := m.h ++ [.cells (ev e x).cells t 0] }) else none := rfl
theorem so_build (e : Env) (m : Mem) (z : List RV) (ps : List (Nat × Nat × Opd)) : stepOp e m (.build z ps) = (match fill (rs z) (evp e ps) with
    | some cs => some (mkAgg cs, m)
    | none => none) := rfl
theorem so_slit (e : Env) (m : Mem) (t : TypeId) (z : List RV) (len sz : Nat) (ps : List (Nat × Nat × Opd)) : stepOp e m (.slit t z len sz ps) = (match fill (rs (repl z len)) (evp e ps) with
    | some cs =>
      if cs.length = len * sz ∧ len * sz ≤ 16777216 then
        match allR cs with
        | some l => some (.r (.sl l len (some len)), m)
        | none => some (.osl m.h.length 0 0 len sz (some len), { m with h := m.h ++ [.cells cs t 0] })
      else none
    | none => none) := rfl
theorem so_load (e : Env) (m : Mem) (n : Nat) (ag : Bool) (a : Opd) : stepOp e m (.load n ag a) = (match loadV m (ev e a) n ag with
    | some v => some (v, m)
    | none => none) := rfl
theorem so_store (e : Env) (m : Mem) (n : Nat) (a v : Opd) : stepOp e m (.store n a v) = (if okV (ev e v) = true ∧ (ev e v).cells.length = n then
      match storeN m (ev e a) (ev e v).cells with
      | some m' => some (.dead, m')
      | none => none
    else none) := rfl
theorem so_nilc (e : Env) (m : Mem) (x : Opd) : stepOp e m (.nilc x) = (match ev e x with
    | .own i g o => some (.own i g o, m)
    | .r (.ptr cs) => some (.r (.ptr cs), m)
    | .fn f a b => some (.fn f a b, m)
    | .r (.fn f a b) => some (.r (.fn f a b), m)
    | _ => none) := rfl
theorem so_bin (e : Env) (m : Mem) (op : BinOp) (x y : Opd) : stepOp e m (.bin op x y) = (match ev e x, ev e y with
    | .r (.lit a), .r (.lit b) => match binL op a b with
      | some v => some (.r (.lit v), m)
      | none => none
    | _, _ => none) := rfl
theorem so_beq (e : Env) (m : Mem) (neg : Bool) (x y : Opd) : stepOp e m (.beq neg x y) = (match (ev e x).bool?, (ev e y).bool? with
    | some a, some b => some (.r (.lit (.bool (if neg then !(a == b) else a == b))), m)
    | _, _ => none) := rfl
theorem so_eqs (e : Env) (m : Mem) (neg : Bool) (ks : List CK) (x y : Opd) : stepOp e m (.eqs neg ks x y) = (match ev e x, ev e y with
    | .r (.agg a), .r (.agg b) =>
      match rvEqs ks a b with
      | some t => some (.r (.lit (.bool (if neg then !t else t))), m)
      | none => none
    | _, _ => none) := rfl
theorem so_eqn (e : Env) (m : Mem) (neg : Bool) (x : Opd) : stepOp e m (.eqn neg x) = (match ev e x with
    | .r (.lit .nilIface) => some (.r (.lit (.bool !neg)), m)
    | .r (.lit (.iface _ _)) => some (.r (.lit (.bool neg)), m)
    | _ => none) := rfl
theorem so_eqnl (e : Env) (m : Mem) (neg : Bool) (x : Opd) : stepOp e m (.eqnl neg x) = (match ev e x with
    | .r .nil => some (.r (.lit (.bool !neg)), m)
    | .r (.sl _ len _) => if len = 0 then none else some (.r (.lit (.bool neg)), m)
    | .osl .. => some (.r (.lit (.bool neg)), m)
    | _ => none) := rfl
theorem so_not (e : Env) (m : Mem) (x : Opd) : stepOp e m (.not x) = (match (ev e x).bool? with
    | some b => some (.r (.lit (.bool !b)), m)
    | none => none) := rfl
theorem so_conv (e : Env) (m : Mem) (k : IntKind) (x : Opd) : stepOp e m (.conv k x) = (match (ev e x).int? with
    | some n => some (.r (.lit (.int k (k.wrap n))), m)
    | none => none) := rfl
theorem so_s2b (e : Env) (m : Mem) (x : Opd) : stepOp e m (.s2b x) = (match ev e x with
    | .r (.lit (.string s)) => some (.r (.sl (s.data.toList.map fun b => .lit (.int .u8 b.toNat)) s.size none), m)
    | _ => none) := rfl
theorem so_mkfn (e : Env) (m : Mem) (f : FuncId) (a b : List Opd) : stepOp e m (.mkfn f a b) = (match allR (evs e a), allR (evs e b) with
    | some a', some b' => some (.r (.fn f a' b'), m)
    | _, _ => some (.fn f (evs e a) (evs e b), m)) := rfl
theorem so_slcA (e : Env) (m : Mem) (n sz : Nat) (x : Opd) (lo hi : Option Opd) : stepOp e m (.slcA n sz x lo hi) = (match bound (lo.map (ev e)) 0, bound (hi.map (ev e)) n with
    | some l, some h =>
      if l ≤ h ∧ h ≤ n then
        match ev e x with
        | .r (.ptr cs) => if n * sz ≤ cs.length then some (.r (.sl ((cs.drop (l * sz)).take ((h - l) * sz)) (h - l) (some (n - l))), m) else none
        | .own i g o => match rcells m i g with
          | some cs => if o + n * sz ≤ cs.length then
              (if l < h ∨ l = 0 then some (.osl i g (o + l * sz) (h - l) sz (some (n - l)), m) else some (.r (.sl [] 0 (some (n - l))), m)) else none
          | none => none
        | _ => none
      else none
    | _, _ => none) := rfl
theorem so_padd (e : Env) (m : Mem) (off : Nat) (x : Opd) : stepOp e m (.padd off x) = (match ev e x with
    | .own i g o => some (.own i g (o + off), m)
    | .r (.ptr cs) => some (.r (.ptr (cs.drop off)), m)
    | _ => none) := rfl
theorem so_fld (e : Env) (m : Mem) (off n : Nat) (ag : Bool) (x : Opd) : stepOp e m (.fld off n ag x) = (match ev e x with
    | .r (.agg cs) =>
      if ag then (if off + n ≤ cs.length then some (.r (.agg ((cs.drop off).take n)), m) else none)
      else match cs[off]? with
        | some v => some (.r v, m)
        | none => none
    | .agg cs =>
      if ag then (if off + n ≤ cs.length then some (mkAgg ((cs.drop off).take n), m) else none)
      else match cs[off]? with
        | some v => some (v, m)
        | none => none
    | _ => none) := rfl
theorem so_idxA (e : Env) (m : Mem) (len sz : Nat) (x i : Opd) : stepOp e m (.idxA len sz x i) = (match (ev e i).int?, ev e x with
    | some n, .r (.ptr cs) => if 0 ≤ n ∧ n < (len : Int) then some (.r (.ptr (cs.drop (n.toNat * sz))), m) else none
    | some n, .own i g o => if 0 ≤ n ∧ n < (len : Int) then some (.own i g (o + n.toNat * sz), m) else none
    | _, _ => none) := rfl
theorem so_idxV (e : Env) (m : Mem) (len sz : Nat) (ag : Bool) (x i : Opd) : stepOp e m (.idxV len sz ag x i) = (match (ev e i).int?, ev e x with
    | some n, .r (.agg cs) =>
      if 0 ≤ n ∧ n < (len : Int) ∧ cs.length = len * sz then
        if ag then some (.r (.agg ((cs.drop (n.toNat * sz)).take sz)), m)
        else match cs[n.toNat * sz]? with
          | some v => some (.r v, m)
          | none => none
      else none
    | _, _ => none) := rfl
theorem so_idxT (e : Env) (m : Mem) (x i : Opd) : stepOp e m (.idxT x i) = (match (ev e i).int?, ev e x with
    | some n, .r (.lit (.string s)) => if 0 ≤ n then match s.data.toList[n.toNat]? with
        | some b => some (.r (.lit (.int .u8 b.toNat)), m)
        | none => none
      else none
    | _, _ => none) := rfl
theorem so_look (e : Env) (m : Mem) (kn : Option Nat) (z : RV) (ok : Bool) (mp k : Opd) : stepOp e m (.look kn z ok mp k) = (match ev e mp, ev e k with
    | .omap i, .r k => match m.h[i]? with
      | some (.map es) => match findK kn k es 0 with
        | some (some (_, v)) => some (if ok then .tup [v, .r (.lit (.bool true))] else v, m)
        | some none => some (if ok then .tup [.r z, .r (.lit (.bool false))] else .r z, m)
        | none => none
      | _ => none
    | _, _ => none) := rfl
theorem so_mupd (e : Env) (m : Mem) (kn : Option Nat) (mp k v : Opd) : stepOp e m (.mupd kn mp k v) = (match ev e mp, ev e k with
    | .omap i, .r k => match m.h[i]? with
      | some (.map es) => match findK kn k es 0 with
        | some (some (j, _)) => some (.dead, { h := m.h.set i (.map (es.set j (k, ev e v))), wr := i :: m.wr })
        | some none => some (.dead, { h := m.h.set i (.map (es ++ [(k, ev e v)])), wr := i :: m.wr })
        | none => none
      | _ => none
    | _, _ => none) := rfl
theorem so_mkmap (e : Env) (m : Mem)  : stepOp e m (.mkmap) = some (.omap m.h.length, { m with h := m.h ++ [.map []] }) := rfl
theorem so_mksl (e : Env) (m : Mem) (t : TypeId) (z : List RV) (sz bytes : Nat) (len cap : Opd) : stepOp e m (.mksl t z sz bytes len cap) = (match (ev e len).int?, (ev e cap).int? with
    | some n, some c => if 0 ≤ n ∧ n = c ∧ roomOk n.toNat bytes ∧ z.length = sz ∧ (0 < sz ∨ n = 0) then
        some (.osl m.h.length 0 0 n.toNat sz (some n.toNat), { m with h := m.h ++ [.cells (rs (repl z n.toNat)) t 0] }) else none
    | _, _ => none) := rfl
theorem so_ext (e : Env) (m : Mem) (i : Nat) (x : Opd) : stepOp e m (.ext i x) = (match ev e x with
    | .tup vs => match vs[i]? with
      | some v => some (v, m)
      | none => none
    | _ => none) := rfl
theorem so_app (e : Env) (m : Mem) (t : TypeId) (z : List RV) (sz bytes : Nat) (x y : Opd) : stepOp e m (.app t z sz bytes x y) = appendA m t sz bytes (ev e x) (ev e y) := rfl
theorem so_lenT (e : Env) (m : Mem) (x : Opd) : stepOp e m (.lenT x) = (match ev e x with
    | .r (.lit (.string s)) => some (.r (.lit (.int .i64 s.size)), m)
    | _ => none) := rfl
theorem so_lenM (e : Env) (m : Mem) (x : Opd) : stepOp e m (.lenM x) = (match ev e x with
    | .omap i => match m.h[i]? with
      | some (.map es) => some (.r (.lit (.int .i64 es.length)), m)
      | _ => none
    | _ => none) := rfl
theorem so_min (e : Env) (m : Mem) (x y : Opd) : stepOp e m (.min x y) = (match ev e x, ev e y with
    | .r (.lit (.int k a)), .r (.lit (.int _ b)) => some (.r (.lit (.int k (if b < a then b else a))), m)
    | _, _ => none) := rfl
theorem so_max (e : Env) (m : Mem) (x y : Opd) : stepOp e m (.max x y) = (match ev e x, ev e y with
    | .r (.lit (.int k a)), .r (.lit (.int _ b)) => some (.r (.lit (.int k (if b > a then b else a))), m)
    | _, _ => none) := rfl
theorem so_cpy (e : Env) (m : Mem) (sz : Nat) (d s : Opd) : stepOp e m (.cpy sz d s) = (match slCells m (ev e s) sz, ev e d with
    | some (cs, n), .osl i g o len sz' _ =>
      if sz' = sz then
        let k := Nat.min n len
        match storeN m (.own i g o) (cs.take (k * sz)) with
        | some m' => some (.r (.lit (.int .i64 k)), m')
        | none => none
      else none
    | some (_, _), .r (.sl _ 0 _) => some (.r (.lit (.int .i64 0)), m)
    | some (_, _), .r .nil => some (.r (.lit (.int .i64 0)), m)
    | _, _ => none) := rfl
theorem so_clr (e : Env) (m : Mem) (z : List RV) (x : Opd) : stepOp e m (.clr z x) = (match ev e x with
    | .r (.sl _ 0 _) => some (unit, m)
    | .r .nil => some (unit, m)
    | .osl i g o len _ _ => if len = 0 then some (unit, m) else match storeN m (.own i g o) (rs (repl z len)) with
      | some m' => some (unit, m')
      | none => none
    | _ => none) := rfl
theorem so_mkif (e : Env) (m : Mem) (t : TypeId) (x : Opd) : stepOp e m (.mkif t x) = (match ev e x with
    | .r (.lit v) => some (.r (.lit (.iface t v)), m)
    | .r (.agg []) => some (.r (.lit (.iface t (.agg #[]))), m)
    | _ => none) := rfl
theorem so_tass (e : Env) (m : Mem) (t : TypeId) (z : RV) (x : Opd) : stepOp e m (.tass t z x) = (match ev e x with
    | .r (.lit .nilIface) => some (.tup [.r z, .r (.lit (.bool false))], m)
    | .r (.lit (.iface u v)) => if u = t then some (.tup [ifaceV v, .r (.lit (.bool true))], m)
      else some (.tup [.r z, .r (.lit (.bool false))], m)
    | _ => none) := rfl

/-- A frozen slice: its cells, its length. -/
def Sl (cs : List RV) (len : Nat) (v : RV) : Prop := (len = 0 ∧ cs = [] ∧ v = .nil) ∨ ∃ c, v = .sl cs len c

theorem Sl.mk (cs : List RV) (len : Nat) (c : Option Nat) : Sl cs len (.sl cs len c) := .inr ⟨c, rfl⟩
theorem Sl.nil : Sl [] 0 .nil := .inl ⟨rfl, rfl, rfl⟩
theorem Sl.len {cs : List RV} {len : Nat} {v : RV} (h : Sl cs len v) : lenOf (.r v) = some len := by
  rcases h with ⟨rfl, rfl, rfl⟩ | ⟨c, rfl⟩ <;> rfl
theorem Sl.at {cs : List RV} {len : Nat} {v : RV} (h : Sl cs len v) {sz i : Nat} (hi : i < len) : atOf sz (.r v) i = some (.r (.ptr (cs.drop (i * sz)))) := by
  rcases h with ⟨rfl, rfl, rfl⟩ | ⟨c, rfl⟩
  · omega
  · simp [atOf]; omega
theorem Sl.cells {cs : List RV} {len : Nat} {v : RV} (h : Sl cs len v) {sz : Nat} (hl : cs.length = len * sz) (m : Mem) : slCells m (.r v) sz = some (rs cs, len) := by
  rcases h with ⟨rfl, rfl, rfl⟩ | ⟨c, rfl⟩
  · rfl
  · simp [slCells, hl]

theorem w64 {n : Int} (h : -9223372036854775808 ≤ n) (h' : n < 9223372036854775808) : IntKind.wrap .i64 n = n := by
  unfold IntKind.wrap; simp [IntKind.bits, IntKind.signed]; omega
theorem wu8 {n : Int} (h : 0 ≤ n) (h' : n < 256) : IntKind.wrap .u8 n = n := by
  unfold IntKind.wrap; simp [IntKind.bits, IntKind.signed]; omega

theorem load_own (m : Mem) (i g o n : Nat) (ag : Bool) : loadV m (.own i g o) n ag = match rcells m i g with
    | some cs => if o + n ≤ cs.length then (if ag then some (mkAgg ((cs.drop o).take n)) else match (cs.drop o).take n with | [v] => some v | _ => none) else none
    | none => none := by
  simp only [loadV, loadN]
  cases rcells m i g with
  | none => rfl
  | some cs =>
    simp only
    by_cases h : o + n ≤ cs.length
    · rw [if_pos h, if_pos h]; rfl
    · rw [if_neg h, if_neg h]
theorem rs_nil : rs [] = [] := rfl
theorem rs_cons (x : RV) (xs : List RV) : rs (x :: xs) = .r x :: rs xs := rfl
theorem load_cons (m : Mem) (x : RV) (xs : List RV) : loadV m (.r (.ptr (x :: xs))) 1 false = some (.r x) := by simp [loadV, loadN, rs]
theorem load_agg (m : Mem) (xs : List RV) (n : Nat) : loadV m (.r (.ptr xs)) n true = if n ≤ xs.length then some (mkAgg (rs (xs.take n))) else none := by
  simp only [loadV, loadN]
  by_cases h : n ≤ xs.length
  · rw [if_pos h, if_pos h]; rfl
  · rw [if_neg h, if_neg h]
theorem mkAgg_rs (xs : List RV) : mkAgg (rs xs) = .r (.agg xs) := by
  have : allR (rs xs) = some xs := by
    induction xs with
    | nil => rfl
    | cons x xs ih => simp only [rs, List.map_cons, allR, AV.toR]; rw [show allR (List.map AV.r xs) = some xs from ih]
  unfold mkAgg; rw [this]

/-- Ints as cells. -/
def ints (k : IntKind) (l : List Int) : List RV := l.map fun n => .lit (.int k n)
theorem ints_len (k : IntKind) (l : List Int) : (ints k l).length = l.length := by simp [ints]
theorem load_ints {m : Mem} {k : IntKind} {l : List Int} {i : Nat} (hi : i < l.length) : loadV m (.r (.ptr ((ints k l).drop i))) 1 false = some (.r (.lit (.int k l[i]))) := by
  have : (ints k l).drop i = .lit (.int k l[i]) :: (ints k l).drop (i + 1) := by
    rw [List.drop_eq_getElem_cons (by simpa [ints] using hi)]; simp [ints]
  simp [loadV, loadN, this, rs]

end Go.AM
/- A function's run, reckoned whole (own work). -/
namespace Go.AM

/-! ### code, in an equation for each kind -/
def goLoop (K : Kit) (live : List Nat) (c : AC) (s : St) : Option (Out × St) := K.iter (fun s => den K c { s with env := ekeep live s.env }) s
theorem dn_skip (K : Kit) (s : St) : den K .skip s = some (.norm, s) := rfl
theorem dn_label (K : Kit) (s : St) : den K .label s = some (.norm, s) := rfl
theorem dn_ret (K : Kit) (s : St) : den K .ret s = some (.ret, s) := rfl
theorem dn_exit (K : Kit) (id : Nat) (s : St) : den K (.exit id) s = some (.exit id, s) := rfl
theorem dn_scope (K : Kit) (c : AC) (s : St) : den K (.scope c) s = den K c s := rfl
theorem dn_keep (K : Kit) (live : List Nat) (s : St) : den K (.keep live) s = some (.norm, { s with env := ekeep live s.env }) := rfl
theorem dn_reg (K : Kit) (ops : List AI) (s : St) : den K (.reg ops) s = denIs K s ops := rfl
theorem dn_draw (K : Kit) (ops : List AI) (slots : Nat) (pairs : List (Nat × Nat)) (gc : List Nat) (s : St) : den K (.draw ops slots pairs gc) s =
    match denD K s.m.h.length ops s.env { h := s.m.h ++ List.replicate slots .dead, wr := s.m.wr } [] with
    | some (e, m, fs) => if pairsOk fs pairs then some (.norm, { s with env := e, m := m }) else none
    | none => none := rfl
/-- A region that draws its order, without what its check lists. -/
def stepE (K : Kit) (base : Nat) (s : St) (d : Option Nat) (o : AOp) : Option (Out × St) :=
  match stepD K base s.env s.m.h o with
  | some (v, m') => some (.norm, putD s d v { h := m'.h, wr := m'.wr ++ s.m.wr })
  | none => none
def denEI (K : Kit) (base : Nat) (s : St) (i : AI) : Option (Out × St) :=
  match wants s.env i.g with
  | some true => stepE K base s i.dst i.o
  | some false => some (.norm, putD s i.dst unit s.m)
  | none => none
def denE (K : Kit) (base : Nat) (s : St) : List AI → Option (Out × St)
  | [] => some (.norm, s)
  | i :: l =>
    match denEI K base s i with
    | some (.norm, s') => denE K base s' l
    | r => r
def noSlots (l : List AI) : Bool := l.all fun i => match i.o with | .slot .. => false | _ => true
theorem denD_E {K : Kit} {base : Nat} : ∀ (l : List AI) (s : St) (fs : List (List Nat × List Nat)), noSlots l = true → (match denD K base l s.env s.m fs with | some (e, m, _) => some (Out.norm, { s with env := e, m := m }) | none => none) = denE K base s l
  | [], s, fs, _ => rfl
  | i :: l, s, fs, h => by
    simp only [noSlots, List.all_cons, Bool.and_eq_true] at h
    have ih := denD_E (K := K) (base := base) l
    have put : ∀ (v : AV) (m : Mem), ({ s with env := (match i.dst with | some t => (t, v) :: s.env | none => s.env), m := m } : St) = putD s i.dst v m := fun v m => by cases i.dst <;> rfl
    simp only [denD, denE, denEI, stepE]
    cases wants s.env i.g with
    | none => rfl
    | some b =>
      cases b with
      | false =>
        simp only
        rw [← ih (putD s i.dst unit s.m) _ h.2]
        cases i.dst <;> rfl
      | true =>
        simp only
        cases hs : stepD K base s.env s.m.h i.o with
        | none => rfl
        | some q =>
          obtain ⟨v, m'⟩ := q
          simp only
          have : slotFree base i.o fs = true := by
            cases ho : i.o <;> simp [ho] at h <;> rfl
          rw [if_pos this, ← ih (putD s i.dst v { h := m'.h, wr := m'.wr ++ s.m.wr }) _ h.2]
          cases i.dst <;> rfl
theorem dn_draw0 (K : Kit) (ops : List AI) (gc : List Nat) (s : St) (h : noSlots ops = true) : den K (.draw ops 0 [] gc) s = denE K s.m.h.length s ops := by
  rw [← denD_E (K := K) (base := s.m.h.length) ops s [] h, dn_draw]
  have e : ({ h := s.m.h ++ List.replicate 0 .dead, wr := s.m.wr } : Mem) = s.m := by simp
  rw [e]
  cases denD K s.m.h.length ops s.env s.m [] with
  | none => rfl
  | some q => rfl
/-- The same with what its check lists. -/
def stepF (K : Kit) (base : Nat) (s : St) (fs : List (List Nat × List Nat)) (d : Option Nat) (o : AOp) : Option (St × List (List Nat × List Nat)) :=
  match stepD K base s.env s.m.h o with
  | some (v, m') => if slotFree base o fs = true then some (putD s d v { h := m'.h, wr := m'.wr ++ s.m.wr }, fs ++ [(foot s.env base o, wrAll s.m.h.length m')]) else none
  | none => none
def denFI (K : Kit) (base : Nat) (s : St) (fs : List (List Nat × List Nat)) (i : AI) : Option (St × List (List Nat × List Nat)) :=
  match wants s.env i.g with
  | some true => stepF K base s fs i.dst i.o
  | some false => some (putD s i.dst unit s.m, fs ++ [([], [])])
  | none => none
def denF (K : Kit) (base : Nat) (s : St) (fs : List (List Nat × List Nat)) : List AI → Option (St × List (List Nat × List Nat))
  | [] => some (s, fs)
  | i :: l =>
    match denFI K base s fs i with
    | some (s', fs') => denF K base s' fs' l
    | none => none
theorem denD_F {K : Kit} {base : Nat} : ∀ (l : List AI) (s : St) (fs : List (List Nat × List Nat)), (match denD K base l s.env s.m fs with | some (e, m, fs') => some ({ s with env := e, m := m }, fs') | none => none) = denF K base s fs l
  | [], s, fs => rfl
  | i :: l, s, fs => by
    have ih := denD_F (K := K) (base := base) l
    simp only [denD, denF, denFI, stepF]
    cases wants s.env i.g with
    | none => rfl
    | some b =>
      cases b with
      | false =>
        simp only
        rw [← ih (putD s i.dst unit s.m) _]
        cases i.dst <;> rfl
      | true =>
        simp only
        cases hs : stepD K base s.env s.m.h i.o with
        | none => rfl
        | some q =>
          obtain ⟨v, m'⟩ := q
          simp only
          by_cases hf : slotFree base i.o fs = true
          · rw [if_pos hf, if_pos hf]
            simp only
            rw [← ih (putD s i.dst v { h := m'.h, wr := m'.wr ++ s.m.wr }) _]
            cases i.dst <;> rfl
          · rw [if_neg hf, if_neg hf]
theorem dn_drawF (K : Kit) (ops : List AI) (slots : Nat) (pairs : List (Nat × Nat)) (gc : List Nat) (s : St) : den K (.draw ops slots pairs gc) s =
    match denF K s.m.h.length { s with m := { h := s.m.h ++ List.replicate slots .dead, wr := s.m.wr } } [] ops with
    | some (s', fs) => if pairsOk fs pairs = true then some (.norm, s') else none
    | none => none := by
  rw [← denD_F, dn_draw]
  simp only
  cases denD K s.m.h.length ops s.env { h := s.m.h ++ List.replicate slots .dead, wr := s.m.wr } [] with
  | none => rfl
  | some q => rfl
theorem sd_mov (K : Kit) (base : Nat) (e : Env) (h : List Blk) (x : Opd) : stepD K base e h (.mov x) = stepOp e { h := h } (.mov x) := rfl
theorem sd_pick (K : Kit) (base : Nat) (e : Env) (h : List Blk) (c a b : Opd) : stepD K base e h (.pick c a b) = stepOp e { h := h } (.pick c a b) := rfl
theorem sd_build (K : Kit) (base : Nat) (e : Env) (h : List Blk) (z : List RV) (ps : List (Nat × Nat × Opd)) : stepD K base e h (.build z ps) = stepOp e { h := h } (.build z ps) := rfl
theorem sd_load (K : Kit) (base : Nat) (e : Env) (h : List Blk) (n : Nat) (ag : Bool) (a : Opd) : stepD K base e h (.load n ag a) = stepOp e { h := h } (.load n ag a) := rfl
theorem sd_store (K : Kit) (base : Nat) (e : Env) (h : List Blk) (n : Nat) (a v : Opd) : stepD K base e h (.store n a v) = stepOp e { h := h } (.store n a v) := rfl
theorem sd_nilc (K : Kit) (base : Nat) (e : Env) (h : List Blk) (x : Opd) : stepD K base e h (.nilc x) = stepOp e { h := h } (.nilc x) := rfl
theorem sd_bin (K : Kit) (base : Nat) (e : Env) (h : List Blk) (op : BinOp) (x y : Opd) : stepD K base e h (.bin op x y) = stepOp e { h := h } (.bin op x y) := rfl
theorem sd_beq (K : Kit) (base : Nat) (e : Env) (h : List Blk) (neg : Bool) (x y : Opd) : stepD K base e h (.beq neg x y) = stepOp e { h := h } (.beq neg x y) := rfl
theorem sd_eqs (K : Kit) (base : Nat) (e : Env) (h : List Blk) (neg : Bool) (ks : List CK) (x y : Opd) : stepD K base e h (.eqs neg ks x y) = stepOp e { h := h } (.eqs neg ks x y) := rfl
theorem sd_eqn (K : Kit) (base : Nat) (e : Env) (h : List Blk) (neg : Bool) (x : Opd) : stepD K base e h (.eqn neg x) = stepOp e { h := h } (.eqn neg x) := rfl
theorem sd_eqnl (K : Kit) (base : Nat) (e : Env) (h : List Blk) (neg : Bool) (x : Opd) : stepD K base e h (.eqnl neg x) = stepOp e { h := h } (.eqnl neg x) := rfl
theorem sd_not (K : Kit) (base : Nat) (e : Env) (h : List Blk) (x : Opd) : stepD K base e h (.not x) = stepOp e { h := h } (.not x) := rfl
theorem sd_conv (K : Kit) (base : Nat) (e : Env) (h : List Blk) (k : IntKind) (x : Opd) : stepD K base e h (.conv k x) = stepOp e { h := h } (.conv k x) := rfl
theorem sd_s2b (K : Kit) (base : Nat) (e : Env) (h : List Blk) (x : Opd) : stepD K base e h (.s2b x) = stepOp e { h := h } (.s2b x) := rfl
theorem sd_mkfn (K : Kit) (base : Nat) (e : Env) (h : List Blk) (f : FuncId) (a b : List Opd) : stepD K base e h (.mkfn f a b) = stepOp e { h := h } (.mkfn f a b) := rfl
theorem sd_slc (K : Kit) (base : Nat) (e : Env) (h : List Blk) (sz : Nat) (x : Opd) (lo hi mx : Option Opd) : stepD K base e h (.slc sz x lo hi mx) = stepOp e { h := h } (.slc sz x lo hi mx) := rfl
theorem sd_slcA (K : Kit) (base : Nat) (e : Env) (h : List Blk) (n sz : Nat) (x : Opd) (lo hi : Option Opd) : stepD K base e h (.slcA n sz x lo hi) = stepOp e { h := h } (.slcA n sz x lo hi) := rfl
theorem sd_padd (K : Kit) (base : Nat) (e : Env) (h : List Blk) (off : Nat) (x : Opd) : stepD K base e h (.padd off x) = stepOp e { h := h } (.padd off x) := rfl
theorem sd_fld (K : Kit) (base : Nat) (e : Env) (h : List Blk) (off n : Nat) (ag : Bool) (x : Opd) : stepD K base e h (.fld off n ag x) = stepOp e { h := h } (.fld off n ag x) := rfl
theorem sd_idxS (K : Kit) (base : Nat) (e : Env) (h : List Blk) (sz : Nat) (x i : Opd) : stepD K base e h (.idxS sz x i) = stepOp e { h := h } (.idxS sz x i) := rfl
theorem sd_idxA (K : Kit) (base : Nat) (e : Env) (h : List Blk) (len sz : Nat) (x i : Opd) : stepD K base e h (.idxA len sz x i) = stepOp e { h := h } (.idxA len sz x i) := rfl
theorem sd_idxV (K : Kit) (base : Nat) (e : Env) (h : List Blk) (len sz : Nat) (ag : Bool) (x i : Opd) : stepD K base e h (.idxV len sz ag x i) = stepOp e { h := h } (.idxV len sz ag x i) := rfl
theorem sd_idxT (K : Kit) (base : Nat) (e : Env) (h : List Blk) (x i : Opd) : stepD K base e h (.idxT x i) = stepOp e { h := h } (.idxT x i) := rfl
theorem sd_look (K : Kit) (base : Nat) (e : Env) (h : List Blk) (kn : Option Nat) (z : RV) (ok : Bool) (mp k : Opd) : stepD K base e h (.look kn z ok mp k) = stepOp e { h := h } (.look kn z ok mp k) := rfl
theorem sd_mupd (K : Kit) (base : Nat) (e : Env) (h : List Blk) (kn : Option Nat) (mp k v : Opd) : stepD K base e h (.mupd kn mp k v) = stepOp e { h := h } (.mupd kn mp k v) := rfl
theorem sd_ext (K : Kit) (base : Nat) (e : Env) (h : List Blk) (i : Nat) (x : Opd) : stepD K base e h (.ext i x) = stepOp e { h := h } (.ext i x) := rfl
theorem sd_app (K : Kit) (base : Nat) (e : Env) (h : List Blk) (t : TypeId) (z : List RV) (sz bytes : Nat) (x y : Opd) : stepD K base e h (.app t z sz bytes x y) = stepOp e { h := h } (.app t z sz bytes x y) := rfl
theorem sd_lenS (K : Kit) (base : Nat) (e : Env) (h : List Blk) (x : Opd) : stepD K base e h (.lenS x) = stepOp e { h := h } (.lenS x) := rfl
theorem sd_lenT (K : Kit) (base : Nat) (e : Env) (h : List Blk) (x : Opd) : stepD K base e h (.lenT x) = stepOp e { h := h } (.lenT x) := rfl
theorem sd_lenM (K : Kit) (base : Nat) (e : Env) (h : List Blk) (x : Opd) : stepD K base e h (.lenM x) = stepOp e { h := h } (.lenM x) := rfl
theorem sd_min (K : Kit) (base : Nat) (e : Env) (h : List Blk) (x y : Opd) : stepD K base e h (.min x y) = stepOp e { h := h } (.min x y) := rfl
theorem sd_max (K : Kit) (base : Nat) (e : Env) (h : List Blk) (x y : Opd) : stepD K base e h (.max x y) = stepOp e { h := h } (.max x y) := rfl
theorem sd_mkif (K : Kit) (base : Nat) (e : Env) (h : List Blk) (t : TypeId) (x : Opd) : stepD K base e h (.mkif t x) = stepOp e { h := h } (.mkif t x) := rfl
theorem sd_tass (K : Kit) (base : Nat) (e : Env) (h : List Blk) (t : TypeId) (z : RV) (x : Opd) : stepD K base e h (.tass t z x) = stepOp e { h := h } (.tass t z x) := rfl
theorem sd_call (K : Kit) (base : Nat) (e : Env) (h : List Blk) (f : Opd) (args : List Opd) : stepD K base e h (.call f args) = match K.call (ev e f) (evs e args) { h := h } with
    | some (.ret v m) => some (v, m)
    | _ => none := rfl
theorem sd_slit (K : Kit) (base : Nat) (e : Env) (h : List Blk) (t : TypeId) (z : List RV) (len sz : Nat) (ps : List (Nat × Nat × Opd)) : stepD K base e h (.slit t z len sz ps) = match stepOp e { h := h } (.slit t z len sz ps) with
    | some (.r v, m) => some (.r v, m)
    | _ => none := rfl
theorem dn_seq (K : Kit) (a b : AC) (s : St) : den K (.seq a b) s = match den K a s with | some (.norm, s') => den K b s' | r => r := rfl
theorem dn_cond (K : Kit) (c : Opd) (a b : AC) (s : St) : den K (.cond c a b) s = match (ev s.env c).bool? with | some t => if t then den K a s else den K b s | none => none := rfl
theorem dn_block (K : Kit) (id : Nat) (c : AC) (s : St) : den K (.block id c) s = match den K c s with | some (.exit id', s') => if id' = id then some (.norm, s') else some (.exit id', s') | r => r := rfl
theorem dn_loop (K : Kit) (live : List Nat) (c : AC) (s : St) : den K (.loop live c) s = goLoop K live c s := rfl
theorem kn_iter (C : Cfg) (n : Nat) : (Kn C n).iter = iterN n := rfl
theorem kn_call (C : Cfg) (n : Nat) : (Kn C n).call = callN C n := rfl

/-- What a function hands back, and the memory behind its body. -/
def fin (F : Nat) (fn : AFn) (h : List Blk) : Option (Out × St) → Option (AV × Mem)
  | some (.norm, s) | some (.ret, s) =>
    match runDefs (fun _ _ _ _ => none) s.defs .returning s.m with
    | some (.returning, m1) => match resAll s.env m1 fn.res with
      | some vs => (fz m1 h.length F (tupOf vs)).map fun v => (v, m1)
      | none => none
    | _ => none
  | _ => none

def runV (K : Kit) (F : Nat) (fn : AFn) (args : List AV) (h : List Blk) : Option (AV × Mem) := fin F fn h (den K fn.body { env := enumFrom 0 args, m := { h := h, wr := [] } })

theorem fin_some {F : Nat} {fn : AFn} {h : List Blk} {r : Option (Out × St)} {v : AV} {m1 : Mem} (hf : fin F fn h r = some (v, m1)) :
    ∃ o s vs, r = some (o, s) ∧ (o = .norm ∨ o = .ret) ∧ runDefs (fun _ _ _ _ => none) s.defs .returning s.m = some (.returning, m1) ∧ resAll s.env m1 fn.res = some vs ∧ fz m1 h.length F (tupOf vs) = some v := by
  have key : ∀ s : St, (match runDefs (fun _ _ _ _ => none) s.defs .returning s.m with
    | some (.returning, m1) => match resAll s.env m1 fn.res with
      | some vs => (fz m1 h.length F (tupOf vs)).map fun v => (v, m1)
      | none => none
    | _ => none) = some (v, m1) → ∃ vs, runDefs (fun _ _ _ _ => none) s.defs .returning s.m = some (.returning, m1) ∧ resAll s.env m1 fn.res = some vs ∧ fz m1 h.length F (tupOf vs) = some v := by
    intro s hs
    split at hs <;> try (cases hs; done)
    rename_i m' hr
    split at hs <;> try (cases hs; done)
    rename_i vs hv
    rw [Option.map_eq_some_iff] at hs
    obtain ⟨a, h1, h2⟩ := hs
    cases h2
    exact ⟨vs, hr, hv, h1⟩
  unfold fin at hf
  split at hf <;> try (cases hf; done)
  · obtain ⟨vs, h1, h2, h3⟩ := key _ hf
    exact ⟨_, _, vs, rfl, .inl rfl, h1, h2, h3⟩
  · obtain ⟨vs, h1, h2, h3⟩ := key _ hf
    exact ⟨_, _, vs, rfl, .inr rfl, h1, h2, h3⟩

/-- A call, out of its function's run. -/
theorem CallR.eval {C : Cfg} {f : FuncId} {fn : AFn} {a b : List RV} {args : List AV} {m m1 : Mem} {v : AV} (hx : C.ext f = none) (hk : C.keepAll f = false) (hp : C.prog f = some fn) (hl : (rs a ++ args ++ rs b).length = fn.nparams)
    (h : ∃ n0, ∀ n, n0 ≤ n → runV (Kn C n) C.fz fn (rs a ++ args ++ rs b) m.h = some (v, m1)) (ht : m1.h.take m.h.length = m.h) (hw : ∀ i ∈ m1.wr, m.h.length ≤ i) : CallR C (.r (.fn f a b)) args m (.ret v m) := by
  obtain ⟨n0, h⟩ := h
  have h0 := h n0 (Nat.le_refl _)
  obtain ⟨o, s, vs, e1, e2, e3, e4, e5⟩ := fin_some h0
  -- the same state whatever the fuel
  refine ⟨n0 + 2, fun n hn => ?_⟩
  obtain ⟨n, rfl⟩ : ∃ k, n = k + 2 := ⟨n - 2, by omega⟩
  obtain ⟨o', s', vs', f1, f2, f3, f4, f5⟩ := fin_some (h n (by omega))
  have hrd : ∀ (d : Option RV → AV → List AV → Mem → Option (CRes × Bool)) (l : List ADef) (m : Mem), runDefs (fun _ _ _ _ => none) l .returning m = some (.returning, m1) → runDefs d l .returning m = some (.returning, m1) := by
    intro d l
    induction l with
    | nil => intro m h; exact h
    | cons x l ih =>
      intro m h
      cases x with
      | dfr i =>
        simp only [runDefs] at h ⊢
        split at h <;> try (cases h; done)
        exact ih _ h
      | call f args => simp [runDefs] at h
  simp only [Kn] at f1
  simp only [callN, funN, hx, hp, runBody, if_pos hl, f1]
  rcases f2 with rfl | rfl <;> simp only [hrd _ _ _ f3, f4, Option.map_some, hk, settle_fz f5 ht hw]

/-- A call of a function value that holds what its caller owns. -/
theorem CallR.evalA {C : Cfg} {f : FuncId} {fn : AFn} {a b args : List AV} {m m1 : Mem} {v : AV} (hx : C.ext f = none) (hk : C.keepAll f = false) (hp : C.prog f = some fn) (hl : (a ++ args ++ b).length = fn.nparams)
    (h : ∃ n0, ∀ n, n0 ≤ n → runV (Kn C n) C.fz fn (a ++ args ++ b) m.h = some (v, m1)) (ht : m1.h.take m.h.length = m.h) (hw : ∀ i ∈ m1.wr, m.h.length ≤ i) : CallR C (.fn f a b) args m (.ret v m) := by
  obtain ⟨n0, h⟩ := h
  have h0 := h n0 (Nat.le_refl _)
  refine ⟨n0 + 2, fun n hn => ?_⟩
  obtain ⟨n, rfl⟩ : ∃ k, n = k + 2 := ⟨n - 2, by omega⟩
  obtain ⟨o', s', vs', f1, f2, f3, f4, f5⟩ := fin_some (h n (by omega))
  have hrd : ∀ (d : Option RV → AV → List AV → Mem → Option (CRes × Bool)) (l : List ADef) (m : Mem), runDefs (fun _ _ _ _ => none) l .returning m = some (.returning, m1) → runDefs d l .returning m = some (.returning, m1) := by
    intro d l
    induction l with
    | nil => intro m h; exact h
    | cons x l ih =>
      intro m h
      cases x with
      | dfr i =>
        simp only [runDefs] at h ⊢
        split at h <;> try (cases h; done)
        exact ih _ h
      | call f args => simp [runDefs] at h
  simp only [Kn] at f1
  simp only [callN, funN, hx, hp, runBody, if_pos hl, f1]
  rcases f2 with rfl | rfl <;> simp only [hrd _ _ _ f3, f4, Option.map_some, hk, settle_fz f5 ht hw]

/-- The same, where the function lays nothing. -/
theorem CallR.eval0 {C : Cfg} {f : FuncId} {fn : AFn} {a b : List RV} {args : List AV} {m : Mem} {v : AV} (hx : C.ext f = none) (hk : C.keepAll f = false) (hp : C.prog f = some fn) (hl : (rs a ++ args ++ rs b).length = fn.nparams)
    (h : ∃ n0, ∀ n, n0 ≤ n → runV (Kn C n) C.fz fn (rs a ++ args ++ rs b) m.h = some (v, { h := m.h, wr := [] })) : CallR C (.r (.fn f a b)) args m (.ret v m) :=
  CallR.eval hx hk hp hl h (by simp) (by simp)

theorem Loop.get {C : Cfg} {live : List Nat} {c : AC} {s s' : St} {o : Out} (h : Loop C live c s o s') :
    ∃ n0, ∀ n, n0 ≤ n → goLoop (Kn C n) live c s = some (o, s') := by
  obtain ⟨n0, h⟩ := h
  exact ⟨n0, fun n hn => h n hn n hn⟩

/-- A state, by what is live in it. -/
structure At1 (live : List Nat) (env : Env) (m : Mem) (s : St) : Prop where
  env : ekeep live s.env = env
  m : s.m = m
  defs : s.defs = []
  round : s.round = none

theorem get_mid (h : List Blk) (b : Blk) (r : List Blk) : (h ++ b :: r)[h.length]? = some b := by simp
theorem get_last (h r : List Blk) (d b : Blk) : (h ++ d :: (r ++ [b]))[h.length + (r.length + 1)]? = some b := by
  rw [List.getElem?_append_right (by omega)]; simp
theorem get_last2 (h r r2 : List Blk) (d b : Blk) : (h ++ d :: (r ++ b :: r2))[h.length + (r.length + 1)]? = some b := by
  rw [List.getElem?_append_right (by omega)]; simp

theorem not_mem_take_succ {l : List Int} {n : Int} {i : Nat} (hi : i < l.length) (h : n ∉ l.take i) (hx : l[i] ≠ n) : n ∉ l.take (i + 1) := by
  intro hm
  rw [List.take_succ_eq_append_getElem hi, List.mem_append] at hm
  rcases hm with hm | hm
  · exact h hm
  · simp at hm; exact hx hm.symm

theorem Den.of {C : Cfg} {c : AC} {s s' : St} {o : Out} (h : ∀ K, den K c s = some (o, s')) : Den C c s o s' := ⟨0, fun n _ => h _⟩
theorem Den.ofN {C : Cfg} {c : AC} {s s' : St} {o : Out} (h : ∃ n0, ∀ n, n0 ≤ n → den (Kn C n) c s = some (o, s')) : Den C c s o s' := h

end Go.AM
/- More fuel changes nothing (own work). -/
namespace Go.AM

/-- A kit that does no less. -/
structure KLe (K K' : Kit) : Prop where
  call : ∀ f a m r, K.call f a m = some r → K'.call f a m = some r
  iter : ∀ (g g' : St → Option (Out × St)) s r, (∀ s r, g s = some r → g' s = some r) → K.iter g s = some r → K'.iter g' s = some r

section
variable {K K' : Kit} (h : KLe K K')
include h
theorem denOp_mono {s : St} {d : Option Nat} {o : AOp} {r : Out × St} (e : denOp K s d o = some r) : denOp K' s d o = some r := by
  cases o
  case call f args =>
    simp only [denOp] at e ⊢
    cases k : K.call (ev s.env f) (evs s.env args) s.m with
    | none => rw [k] at e; cases e
    | some x => rw [h.call _ _ _ _ k]; rw [k] at e; exact e
  all_goals exact e
theorem denI_mono {s : St} {i : AI} {r : Out × St} (e : denI K s i = some r) : denI K' s i = some r := by
  simp only [denI] at e ⊢
  split at e
  · exact denOp_mono h e
  · exact e
  · cases e
theorem denIs_mono : ∀ {l : List AI} {s : St} {r : Out × St}, denIs K s l = some r → denIs K' s l = some r
  | [], s, r, e => e
  | i :: l, s, r, e => by
    simp only [denIs] at e ⊢
    cases k : denI K s i with
    | none => rw [k] at e; cases e
    | some x =>
      rw [denI_mono h k]
      rw [k] at e
      obtain ⟨o, s'⟩ := x
      cases o <;> first | exact denIs_mono e | exact e
theorem stepD_mono {base : Nat} {e : Env} {hh : List Blk} {o : AOp} {r : AV × Mem} (x : stepD K base e hh o = some r) : stepD K' base e hh o = some r := by
  cases o
  case call f args =>
    simp only [stepD] at x ⊢
    cases k : K.call (ev e f) (evs e args) { h := hh } with
    | none => rw [k] at x; cases x
    | some y => rw [h.call _ _ _ _ k]; rw [k] at x; exact x
  all_goals exact x
theorem denD_mono {base : Nat} : ∀ {l : List AI} {e : Env} {m : Mem} {fs : List (List Nat × List Nat)} {r : Env × Mem × List (List Nat × List Nat)}, denD K base l e m fs = some r → denD K' base l e m fs = some r
  | [], e, m, fs, r, x => x
  | i :: l, e, m, fs, r, x => by
    simp only [denD] at x ⊢
    split at x
    · cases k : stepD K base e m.h i.o with
      | none => rw [k] at x; cases x
      | some y =>
        rw [stepD_mono h k]
        rw [k] at x
        simp only at x ⊢
        split at x
        · rename_i hs
          rw [if_pos hs]; exact denD_mono x
        · cases x
    · exact denD_mono x
    · cases x
theorem den_mono : ∀ {c : AC} {s : St} {r : Out × St}, den K c s = some r → den K' c s = some r := by
  intro c
  induction c with
  | skip => exact fun e => e
  | label => exact fun e => e
  | ret => exact fun e => e
  | exit id => exact fun e => e
  | keep live => exact fun e => e
  | reg ops => exact fun e => denIs_mono h e
  | draw ops slots pairs gc =>
    intro s r e
    rw [dn_draw] at e ⊢
    split at e
    · rename_i k
      rw [denD_mono h k]; exact e
    · cases e
  | seq a b iha ihb =>
    intro s r e
    rw [dn_seq] at e ⊢
    cases k : den K a s with
    | none => rw [k] at e; cases e
    | some x =>
      rw [iha k]
      rw [k] at e
      obtain ⟨o, s'⟩ := x
      cases o <;> first | exact ihb e | exact e
  | cond c a b iha ihb =>
    intro s r e
    rw [dn_cond] at e ⊢
    split at e
    · split at e
      · rename_i t ht htt
        simp only [ht, htt, if_true]; exact iha e
      · rename_i t ht htt
        simp only [ht, htt]; exact ihb e
    · cases e
  | block id c ih =>
    intro s r e
    rw [dn_block] at e ⊢
    cases k : den K c s with
    | none => rw [k] at e; cases e
    | some x => rw [ih k]; rw [k] at e; exact e
  | loop live c ih =>
    intro s r e
    exact h.iter _ _ _ _ (fun s r x => ih x) e
  | scope c ih => exact fun e => ih e
  | rangeF f ps as bd iha ihb =>
    intro s r e
    simp only [den] at e ⊢
    split at e
    · cases e
    · rename_i hr
      rw [if_neg hr]
      generalize ev s.env f = v at e ⊢
      cases v <;> simp only at e ⊢ <;> first
        | (cases e; done)
        | (split at e
           · rename_i heq; rw [h.call _ _ _ _ heq]; exact e
           · rename_i heq; rw [h.call _ _ _ _ heq]; exact e
           · cases e)
end

theorem runDefs_mono {d d' : Option RV → AV → List AV → Mem → Option (CRes × Bool)} (h : ∀ r f a m x, d r f a m = some x → d' r f a m = some x) : ∀ {l : List ADef} {md : Md} {m : Mem} {r : Md × Mem}, runDefs d l md m = some r → runDefs d' l md m = some r
  | [], md, m, r, e => e
  | .dfr i :: l, md, m, r, e => by
    simp only [runDefs] at e ⊢
    split at e
    · exact runDefs_mono h e
    · cases e
  | .call f args :: l, md, m, r, e => by
    simp only [runDefs] at e ⊢
    cases k : d md.toRec f args m with
    | none => rw [k] at e; cases e
    | some x =>
      rw [h _ _ _ _ _ k]
      rw [k] at e
      obtain ⟨c, b⟩ := x
      cases c with
      | ret v m' => exact runDefs_mono h e
      | pan v m' => cases e
theorem runBody_mono {C : Cfg} {K K' : Kit} (h : KLe K K') {d d' : Option RV → AV → List AV → Mem → Option (CRes × Bool)} (hd : ∀ r f a m x, d r f a m = some x → d' r f a m = some x) {f : FuncId} {fn : AFn} {args : List AV} {m : Mem} {rec : Option RV} {r : CRes × Bool}
    (e : runBody C K d f fn args m rec = some r) : runBody C K' d' f fn args m rec = some r := by
  simp only [runBody] at e ⊢
  split at e
  · rename_i hl
    rw [if_pos hl]
    cases k : den K fn.body { env := enumFrom 0 args, m := { h := m.h, wr := [] }, rcv := rec } with
    | none => rw [k] at e; cases e
    | some x =>
      rw [den_mono h k]
      rw [k] at e
      obtain ⟨o, s⟩ := x
      simp only at e ⊢
      split at e
      · rename_i md hmd
        cases k2 : runDefs d s.defs md s.m with
        | none => rw [k2] at e; cases e
        | some y => rw [runDefs_mono hd k2]; rw [k2] at e; exact e
      · cases e
  · cases e
theorem runRound_mono {K K' : Kit} (h : KLe K K') {F i : Nat} {args : List AV} {m : Mem} {r : CRes} (e : runRound K F i args m = some r) : runRound K' F i args m = some r := by
  simp only [runRound] at e ⊢
  split at e
  · rename_i env params assign body hb
    split at e
    · rename_i env' he
      cases k : den K assign { env := env', m := { h := m.h, wr := [] }, round := some i } with
      | none => rw [k] at e; cases e
      | some x =>
        rw [den_mono h k]
        rw [k] at e
        obtain ⟨o, s1⟩ := x
        cases o <;> simp only at e ⊢ <;> try (cases e; done)
        simp only [roundBody] at e ⊢
        split at e
        · rename_i env2 params2 assign2 body2 hb2
          cases k2 : den K body { s1 with m := { h := s1.m.h.set i (.loop env2 params2 assign2 body2 .busy none), wr := i :: s1.m.wr } } with
          | none => rw [k2] at e; cases e
          | some y => rw [den_mono h k2]; rw [k2] at e; exact e
        · cases e
    · cases e
  · cases e

theorem iterN_mono : ∀ (n : Nat) (g g' : St → Option (Out × St)) (s : St) (r : Out × St), (∀ s r, g s = some r → g' s = some r) → iterN n g s = some r → iterN (n + 1) g' s = some r
  | 0, g, g', s, r, h, e => by simp [iterN] at e
  | n + 1, g, g', s, r, h, e => by
    unfold iterN at e ⊢
    cases k : g s with
    | none => rw [k] at e; cases e
    | some x =>
      rw [h _ _ k]
      rw [k] at e
      obtain ⟨o, s'⟩ := x
      cases o <;> first | exact iterN_mono n g g' s' r h e | exact e

theorem all_mono (C : Cfg) : ∀ n : Nat, (∀ f a m r, callN C n f a m = some r → callN C (n + 1) f a m = some r) ∧ (∀ f a m rec r, funN C n f a m rec = some r → funN C (n + 1) f a m rec = some r) ∧
    (∀ rec f a m r, dfrN C n rec f a m = some r → dfrN C (n + 1) rec f a m = some r) := by
  intro n
  induction n with
  | zero => exact ⟨fun f a m r e => by simp [callN] at e, fun f a m rec r e => by simp [funN] at e, fun rec f a m r e => by simp [dfrN] at e⟩
  | succ n ih =>
    obtain ⟨h1, h2, h3⟩ := ih
    have hK : KLe { call := callN C n, iter := iterN n } { call := callN C (n + 1), iter := iterN (n + 1) } := ⟨fun f a m r e => h1 f a m r e, fun g g' s r hg e => iterN_mono n g g' s r hg e⟩
    refine ⟨fun f a m r e => ?_, fun f a m rec r e => ?_, fun rec f a m r e => ?_⟩
    · unfold callN at e ⊢
      split at e
      · rw [Option.map_eq_some_iff] at e ⊢
        obtain ⟨x, e1, e2⟩ := e
        exact ⟨x, h2 _ _ _ _ _ e1, e2⟩
      · rw [Option.map_eq_some_iff] at e ⊢
        obtain ⟨x, e1, e2⟩ := e
        exact ⟨x, h2 _ _ _ _ _ e1, e2⟩
      · exact runRound_mono hK e
      · cases e
    · unfold funN at e ⊢
      split at e
      · exact e
      · split at e
        · exact runBody_mono hK (fun r f a m x e => h3 r f a m x e) e
        · cases e
    · unfold dfrN at e ⊢
      split at e
      · exact h2 _ _ _ _ _ e
      · exact h2 _ _ _ _ _ e
      · cases e
theorem callN_le (C : Cfg) {n : Nat} {f : AV} {a : List AV} {m : Mem} {r : CRes} (e : callN C n f a m = some r) : ∀ n', n ≤ n' → callN C n' f a m = some r := by
  intro n' hn
  induction hn with
  | refl => exact e
  | step _ ih => exact (all_mono C _).1 _ _ _ _ ih
/-- A call, out of one reckoning. -/
theorem CallR.of {C : Cfg} {n : Nat} {f : AV} {a : List AV} {m : Mem} {r : CRes} (e : callN C n f a m = some r) : CallR C f a m r := ⟨n, callN_le C e⟩

end Go.AM
/- A call, out of one run of its function (own work). -/
namespace Go.AM

theorem Kn_succ (C : Cfg) (n : Nat) : KLe (Kn C n) (Kn C (n + 1)) :=
  ⟨fun f a m r e => (all_mono C n).1 f a m r e, fun g g' s r hg e => iterN_mono n g g' s r hg e⟩
theorem den_le {C : Cfg} {n : Nat} {c : AC} {s : St} {r : Out × St} (e : den (Kn C n) c s = some r) : ∀ n', n ≤ n' → den (Kn C n') c s = some r := by
  intro n' hn
  induction hn with
  | refl => exact e
  | step _ ih => exact den_mono (Kn_succ C _) ih
theorem runV_le {C : Cfg} {n F : Nat} {fn : AFn} {args : List AV} {h : List Blk} {x : AV × Mem} (e : runV (Kn C n) F fn args h = some x) : ∀ n', n ≤ n' → runV (Kn C n') F fn args h = some x := by
  intro n' hn
  unfold runV at e ⊢
  cases k : den (Kn C n) fn.body { env := enumFrom 0 args, m := { h := h, wr := [] } } with
  | none => rw [k] at e; cases e
  | some r => rw [den_le k n' hn]; rw [k] at e; exact e
theorem CallR.eval1 {C : Cfg} {f : FuncId} {fn : AFn} {a b : List RV} {args : List AV} {m m1 : Mem} {v : AV} {n : Nat} (hx : C.ext f = none) (hk : C.keepAll f = false) (hp : C.prog f = some fn) (hl : (rs a ++ args ++ rs b).length = fn.nparams)
    (h : runV (Kn C n) C.fz fn (rs a ++ args ++ rs b) m.h = some (v, m1)) (ht : m1.h.take m.h.length = m.h) (hw : ∀ i ∈ m1.wr, m.h.length ≤ i) : CallR C (.r (.fn f a b)) args m (.ret v m) :=
  CallR.eval hx hk hp hl ⟨n, fun k hk => runV_le h k hk⟩ ht hw

end Go.AM
/- Calls that keep all they lay, and loops over functions (own work). -/
namespace Go.AM

/-- What a function hands back that keeps all. -/
def finK (fn : AFn) : Option (Out × St) → Option (AV × Mem)
  | some (.norm, s) | some (.ret, s) =>
    match runDefs (fun _ _ _ _ => none) s.defs .returning s.m with
    | some (.returning, m1) => match resAll s.env m1 fn.res with
      | some vs => some (tupOf vs, m1)
      | none => none
    | _ => none
  | _ => none
def runK (K : Kit) (fn : AFn) (args : List AV) (h : List Blk) : Option (AV × Mem) := finK fn (den K fn.body { env := enumFrom 0 args, m := { h := h, wr := [] } })
theorem finK_some {fn : AFn} {r : Option (Out × St)} {v : AV} {m1 : Mem} (hf : finK fn r = some (v, m1)) :
    ∃ o s vs, r = some (o, s) ∧ (o = .norm ∨ o = .ret) ∧ runDefs (fun _ _ _ _ => none) s.defs .returning s.m = some (.returning, m1) ∧ resAll s.env m1 fn.res = some vs ∧ tupOf vs = v := by
  have key : ∀ s : St, (match runDefs (fun _ _ _ _ => none) s.defs .returning s.m with
    | some (.returning, m1) => match resAll s.env m1 fn.res with
      | some vs => some (tupOf vs, m1)
      | none => none
    | _ => none) = some (v, m1) → ∃ vs, runDefs (fun _ _ _ _ => none) s.defs .returning s.m = some (.returning, m1) ∧ resAll s.env m1 fn.res = some vs ∧ tupOf vs = v := by
    intro s hs
    split at hs <;> try (cases hs; done)
    rename_i m' hr
    split at hs <;> try (cases hs; done)
    rename_i vs hv
    cases hs
    exact ⟨vs, hr, hv, rfl⟩
  unfold finK at hf
  split at hf <;> try (cases hf; done)
  · obtain ⟨vs, h1, h2, h3⟩ := key _ hf
    exact ⟨_, _, vs, rfl, .inl rfl, h1, h2, h3⟩
  · obtain ⟨vs, h1, h2, h3⟩ := key _ hf
    exact ⟨_, _, vs, rfl, .inr rfl, h1, h2, h3⟩
/-- A call of a function that keeps all. -/
theorem CallR.evalK {C : Cfg} {f : FuncId} {fn : AFn} {a b args : List AV} {m m1 : Mem} {v : AV} (hx : C.ext f = none) (hk : C.keepAll f = true) (hp : C.prog f = some fn) (hl : (a ++ args ++ b).length = fn.nparams)
    (h : ∃ n0, ∀ n, n0 ≤ n → runK (Kn C n) fn (a ++ args ++ b) m.h = some (v, m1)) : CallR C (.fn f a b) args m (.ret v { h := m1.h, wr := oldWr m.h.length m1.wr ++ m.wr }) := by
  obtain ⟨n0, h⟩ := h
  refine ⟨n0 + 2, fun n hn => ?_⟩
  obtain ⟨n, rfl⟩ : ∃ k, n = k + 2 := ⟨n - 2, by omega⟩
  obtain ⟨o', s', vs', f1, f2, f3, f4, f5⟩ := finK_some (h n (by omega))
  have hrd : ∀ (d : Option RV → AV → List AV → Mem → Option (CRes × Bool)) (l : List ADef) (m : Mem), runDefs (fun _ _ _ _ => none) l .returning m = some (.returning, m1) → runDefs d l .returning m = some (.returning, m1) := by
    intro d l
    induction l with
    | nil => intro m h; exact h
    | cons x l ih =>
      intro m h
      cases x with
      | dfr i =>
        simp only [runDefs] at h ⊢
        split at h <;> try (cases h; done)
        exact ih _ h
      | call f args => simp [runDefs] at h
  simp only [Kn] at f1
  simp only [callN, funN, hx, hp, runBody, if_pos hl, f1]
  rcases f2 with rfl | rfl <;> simp only [hrd _ _ _ f3, f4, Option.map_some, hk, f5, settle, if_true]

/-- A round of a loop over a function. -/
theorem CallR.round {C : Cfg} {i : Nat} {args : List AV} {m : Mem} {env env' : Env} {ps : List Nat} {as bd : AC} {s1 s2 : St} {o : Out} {e2 : Env} {q1 q2 : List Nat} {a2 a3 b2 b3 : AC} {r : CRes}
    (hb : m.h[i]? = some (.loop env ps as bd .ready none)) (hp : putParams env ps args = some env') (ha : Den C as { env := env', m := { h := m.h, wr := [] }, round := some i } .norm s1)
    (hb1 : s1.m.h[i]? = some (.loop e2 q1 a2 b2 .ready none)) (hd : Den C bd { s1 with m := { h := s1.m.h.set i (.loop e2 q1 a2 b2 .busy none), wr := i :: s1.m.wr } } o s2) (ho : ∀ v, o ≠ .pan v) (hr : roundEnd C.fz i m o s2 = some r) :
    CallR C (.yld i) args m r := by
  obtain ⟨n1, h1⟩ := ha
  obtain ⟨n2, h2⟩ := hd
  refine ⟨max n1 n2 + 1, fun n hn => ?_⟩
  obtain ⟨n, rfl⟩ : ∃ k, n = k + 1 := ⟨n - 1, by omega⟩
  have g1 := h1 n (by omega)
  have g2 := h2 n (by omega)
  simp only [Kn] at g1 g2
  simp only [callN, runRound, hb, hp, g1, roundBody, hb1, g2]
  cases o <;> first | exact hr | exact absurd rfl (ho _)

end Go.AM
/- Calls that write their caller's memory (own work). -/
namespace Go.AM

theorem CallR.evalW {C : Cfg} {f : FuncId} {fn : AFn} {a b args : List AV} {m m1 m' : Mem} {v v' : AV} (hx : C.ext f = none) (hp : C.prog f = some fn) (hl : (a ++ args ++ b).length = fn.nparams)
    (h : ∃ n0, ∀ n, n0 ≤ n → runK (Kn C n) fn (a ++ args ++ b) m.h = some (v, m1)) (hs : Go.AM.settle C.fz (C.keepAll f) m v m1 = (v', m')) : CallR C (.fn f a b) args m (.ret v' m') := by
  obtain ⟨n0, h⟩ := h
  refine ⟨n0 + 2, fun n hn => ?_⟩
  obtain ⟨n, rfl⟩ : ∃ k, n = k + 2 := ⟨n - 2, by omega⟩
  obtain ⟨o', s', vs', f1, f2, f3, f4, f5⟩ := finK_some (h n (by omega))
  have hrd : ∀ (d : Option RV → AV → List AV → Mem → Option (CRes × Bool)) (l : List ADef) (m : Mem), runDefs (fun _ _ _ _ => none) l .returning m = some (.returning, m1) → runDefs d l .returning m = some (.returning, m1) := by
    intro d l
    induction l with
    | nil => intro m h; exact h
    | cons x l ih =>
      intro m h
      cases x with
      | dfr i =>
        simp only [runDefs] at h ⊢
        split at h <;> try (cases h; done)
        exact ih _ h
      | call f args => simp [runDefs] at h
  simp only [Kn] at f1
  simp only [callN, funN, hx, hp, runBody, if_pos hl, f1]
  rcases f2 with rfl | rfl <;> simp only [hrd _ _ _ f3, f4, Option.map_some, f5, hs]

/-- What is written holds nothing new: new blocks are gone. -/
theorem settle_w {F : Nat} {m m1 : Mem} {v v' : AV} (h : fz m1 m.h.length F v = some v') (hw : ∀ i ∈ m1.wr, i < m.h.length → ∀ b, m1.h[i]? = some b → blkLt m.h.length b = true) :
    Go.AM.settle F false m v m1 = (v', { h := m1.h.take m.h.length, wr := oldWr m.h.length m1.wr ++ m.wr }) := by
  have hall : (oldWr m.h.length m1.wr).all (fun i => match m1.h[i]? with | some b => blkLt m.h.length b | none => true) = true := by
    rw [List.all_eq_true]
    intro i hi
    unfold oldWr at hi
    obtain ⟨h1, h2⟩ := List.mem_filter.1 hi
    cases hb : m1.h[i]? with
    | none => rfl
    | some b => exact hw i h1 (by simpa using h2) b hb
  unfold Go.AM.settle
  simp only [Bool.false_eq_true, if_false, h]
  split
  · rfl
  · rename_i hne
    exact absurd hall hne

end Go.AM
/- A function that appends again and again to a slice that it is handed: by what cap that slice has (own work). -/
namespace Go.AM

/-- A slice whose cap is not known. -/
def room : AV → Option (Nat × Nat × Nat × Nat)
  | .osl i g 0 len sz none => some (i, g, len, sz)
  | _ => none
theorem room_eq {x : AV} {i g len sz : Nat} (h : room x = some (i, g, len, sz)) : x = .osl i g 0 len sz none := by
  unfold room at h
  split at h
  · cases h; rfl
  · cases h
/-- It has some cap. -/
def Alt (x y : AV) : Prop :=
  match room x with
  | some (i, g, len, sz) => ∃ k, len ≤ k ∧ y = .osl i g 0 len sz (some k)
  | none => y = x
/-- The slice's block is as long again as it was. -/
def Back (x : AV) (h1 h' : List Blk) : Prop :=
  match room x with
  | some (i, g, len, sz) => ∃ cs t, h1[i]? = some (.cells cs t g) ∧ h' = h1.set i (.cells (cs.take (len * sz)) t g)
  | none => h' = h1
def bodyN (C : Cfg) (n : Nat) (f : FuncId) (fn : AFn) (args : List AV) (h : List Blk) : Option (CRes × Bool) :=
  runBody C { call := callN C n, iter := iterN n } (fun rec f args m => dfrN C n rec f args m) f fn args { h := h } none
/-- Whatever cap the slice has, the function comes to the same. -/
structure SplitR (C : Cfg) (f : FuncId) (fn : AFn) (p : Nat) (args : List AV) (h : List Blk) (v : AV) (h' : List Blk) : Prop where
  lt : p < args.length
  run : ∀ x, args[p]? = some x → ∀ y, Alt x y → ∃ n b m1, bodyN C n f fn (args.set p y) h = some (.ret v m1, b) ∧ Back x m1.h h' ∧ ∀ z ∈ m1.wr, z ∈ args.flatMap avIdx
open Classical in
noncomputable def splitE (C : Cfg) (f : FuncId) (fn : AFn) (p : Nat) : List AV → Mem → Option CRes := fun args m =>
  if h : ∃ q : AV × List Blk, SplitR C f fn p args m.h q.1 q.2 then some (.ret (Classical.choose h).1 { h := (Classical.choose h).2, wr := args.flatMap avIdx ++ m.wr }) else none

theorem alt_ex (x : AV) : ∃ y, Alt x y := by
  unfold Alt
  cases room x with
  | some q => exact ⟨_, _, Nat.le_refl _, rfl⟩
  | none => exact ⟨_, rfl⟩
theorem back_uniq {x : AV} {h1 h2 h3 : List Blk} (a : Back x h1 h2) (b : Back x h1 h3) : h2 = h3 := by
  unfold Back at a b
  cases hr : room x with
  | some q =>
    rw [hr] at a b
    obtain ⟨cs, t, e1, e2⟩ := a
    obtain ⟨cs', t', e3, e4⟩ := b
    rw [e1] at e3
    cases e3
    rw [e2, e4]
  | none => rw [hr] at a b; rw [a, b]
theorem bodyN_le {C : Cfg} {n : Nat} {f : FuncId} {fn : AFn} {args : List AV} {h : List Blk} {r : CRes × Bool} (e : bodyN C n f fn args h = some r) : ∀ n', n ≤ n' → bodyN C n' f fn args h = some r := by
  intro n' hn
  induction hn with
  | refl => exact e
  | @step k _ ih =>
    obtain ⟨h1, h2, h3⟩ := all_mono C k
    have hK : KLe { call := callN C k, iter := iterN k } { call := callN C (k + 1), iter := iterN (k + 1) } := ⟨fun f a m r e => h1 f a m r e, fun g g' s r hg e => iterN_mono k g g' s r hg e⟩
    exact runBody_mono hK (fun r f a m x e => h3 r f a m x e) ih
theorem SplitR.uniq {C : Cfg} {f : FuncId} {fn : AFn} {p : Nat} {args : List AV} {h h1 h2 : List Blk} {v1 v2 : AV} (a : SplitR C f fn p args h v1 h1) (b : SplitR C f fn p args h v2 h2) : v1 = v2 ∧ h1 = h2 := by
  have hlt := a.lt
  have hx : args[p]? = some args[p] := List.getElem?_eq_getElem hlt
  obtain ⟨y, hy⟩ := alt_ex args[p]
  obtain ⟨n1, b1, m1, e1, k1, _⟩ := a.run _ hx y hy
  obtain ⟨n2, b2, m2, e2, k2, _⟩ := b.run _ hx y hy
  have f1 := bodyN_le e1 (n1 + n2) (by omega)
  have f2 := bodyN_le e2 (n1 + n2) (by omega)
  rw [f1] at f2
  cases f2
  exact ⟨rfl, back_uniq k1 k2⟩
theorem splitE_eq {C : Cfg} {f : FuncId} {fn : AFn} {p : Nat} {args : List AV} {m : Mem} {v : AV} {h' : List Blk} (a : SplitR C f fn p args m.h v h') :
    splitE C f fn p args m = some (.ret v { h := h', wr := args.flatMap avIdx ++ m.wr }) := by
  have hex : ∃ q : AV × List Blk, SplitR C f fn p args m.h q.1 q.2 := ⟨(v, h'), a⟩
  unfold splitE
  rw [dif_pos hex]
  obtain ⟨e1, e2⟩ := (Classical.choose_spec hex).uniq a
  rw [e1, e2]
theorem splitE_get {C : Cfg} {f : FuncId} {fn : AFn} {p : Nat} {args : List AV} {m : Mem} {r : CRes} (e : splitE C f fn p args m = some r) :
    ∃ v h', SplitR C f fn p args m.h v h' ∧ r = .ret v { h := h', wr := args.flatMap avIdx ++ m.wr } := by
  unfold splitE at e
  split at e
  · rename_i h
    cases e
    exact ⟨_, _, Classical.choose_spec h, rfl⟩
  · cases e

theorem alt_vr {c : Cx} {x : AV} {v : Value} (h : VR c x v) : ∃ y, Alt x y ∧ VR c y v := by
  unfold Alt
  cases hr : room x with
  | some q =>
    obtain ⟨i, g, len, sz⟩ := q
    have hxe := room_eq hr
    subst hxe
    simp only [VR] at h
    obtain ⟨h1, h2, a, k, h3, h4⟩ := h
    by_cases hg : g = c.G i
    · obtain ⟨k1, k2, k3, _⟩ := h4 hg
      exact ⟨_, ⟨k, k2, rfl⟩, by simp only [VR]; exact ⟨h1, h2, a, k, h3, fun e => ⟨k1, k2, k3, fun x hx => Option.some.inj hx⟩⟩⟩
    · exact ⟨_, ⟨len, Nat.le_refl _, rfl⟩, by simp only [VR]; exact ⟨h1, h2, a, k, h3, fun e => absurd e hg⟩⟩
  | none => exact ⟨_, rfl, h⟩
theorem Rel.trim {K : Nat → AC → Code → Prop} {c : Cx} {X : Fr} {h : List Blk} {w : World} (hR : Rel K c X h w) {i g k : Nat} {cs : List AV} {t : TypeId} (hb : h[i]? = some (.cells cs t g)) : Rel K c X (h.set i (.cells (cs.take k) t g)) w := by
  have hl : i < h.length := (List.getElem?_eq_some_iff.1 hb).1
  have old : ∀ (j : Nat) (b : Blk), (h.set i (.cells (cs.take k) t g))[j]? = some b → (j = i ∧ b = .cells (cs.take k) t g) ∨ (j ≠ i ∧ h[j]? = some b) := fun j b hj => by
    by_cases e : j = i
    · subst e; rw [List.getElem?_set_self hl] at hj; exact .inl ⟨rfl, (Option.some.inj hj).symm⟩
    · rw [List.getElem?_set_ne (fun q => e q.symm)] at hj; exact .inr ⟨e, hj⟩
  have al : ∀ (j : Nat) (b : Blk), (h.set i (.cells (cs.take k) t g))[j]? = some b → b.alive → ∃ b' : Blk, h[j]? = some b' ∧ b'.alive := fun j b hj ha => by
    rcases old j b hj with ⟨rfl, rfl⟩ | ⟨_, h1⟩
    · exact ⟨_, hb, trivial⟩
    · exact ⟨_, h1, ha⟩
  refine ⟨by simpa using hR.len, fun j b hj ha => ?_, fun j j' b d hj ha hj' hd e => ?_, fun j b hj ha => ?_, hR.mem, hR.frm, fun j hj => ?_⟩
  · rcases old j b hj with ⟨rfl, rfl⟩ | ⟨_, h1⟩
    · obtain ⟨o, ho, h1, C, h2, h3, vs, rest, h4, h5, h6⟩ := hR.blk j _ hb trivial
      refine ⟨o, ho, h1, C, h2, h3, vs.take k, vs.drop k ++ rest, ?_, ?_, ?_⟩
      · rw [h4, ← List.append_assoc, List.take_append_drop]
      · rw [vrs_iff] at h5 ⊢; exact h5.take k
      · exact fun v hv => h6 v (List.mem_of_mem_take hv)
    · exact hR.blk j b h1 ha
  · obtain ⟨b', e1, e2⟩ := al j b hj ha
    obtain ⟨d', e3, e4⟩ := al j' d hj' hd
    exact hR.inj j j' b' d' e1 e2 e3 e4 e
  · obtain ⟨b', e1, e2⟩ := al j b hj ha
    exact hR.own j b' e1 e2
  · have h1 := hR.res j hj
    have : j ≠ i := fun e => by subst e; rw [hb] at h1; cases h1
    rw [List.getElem?_set_ne (fun q => this q.symm)]; exact h1
theorem Rel.back {K : Nat → AC → Code → Prop} {c : Cx} {X : Fr} {h h' : List Blk} {w : World} {x : AV} (hR : Rel K c X h w) (hb : Back x h h') : Rel K c X h' w := by
  unfold Back at hb
  cases hr : room x with
  | some q =>
    rw [hr] at hb
    obtain ⟨cs, t, e1, e2⟩ := hb
    rw [e2]; exact hR.trim e1
  | none => rw [hr] at hb; rw [hb]; exact hR

theorem set_getSelf {α : Type} {l : List α} {i : Nat} {x : α} (h : l[i]? = some x) : l.set i x = l := by
  apply List.ext_getElem?
  intro j
  by_cases e : j = i
  · subst e; rw [List.getElem?_set_self (List.getElem?_eq_some_iff.1 h).1, h]
  · rw [List.getElem?_set_ne (fun q => e q.symm)]

section
variable {P : Program} {D : DChk}
theorem splitE_ok {C : Cfg} (hP : ProgOk P D C) {f : FuncId} {fn : AFn} (hf : FnOk P D f fn) (p : Nat) :
    (∀ (vs : Array Value) w, (callFunc f vs).run P w = .ok (.enter f vs) w) ∧ ∀ args m r, splitE C f fn p args m = some r → ∀ c X w vs, Rel (KC P D) c X m.h w → VRs c args vs → ∀ n, CallsIn (FW none) n P f vs.toArray w (RetR (KC P D) X c w r) := by
  refine ⟨fun vs w => callFunc_enter hf vs w, fun args m r he c X w vs hR hv n => ?_⟩
  obtain ⟨v, h', hs, rfl⟩ := splitE_get he
  have hlt := hs.lt
  have hx : args[p]? = some args[p] := List.getElem?_eq_getElem hlt
  have hv2 := vrs_iff.1 hv
  obtain ⟨u, hu, huv⟩ := hv2.get hx
  obtain ⟨y, hy, hyv⟩ := alt_vr huv
  obtain ⟨k, b, m1, e1, e2, e3⟩ := hs.run _ hx y hy
  have hv3 : VRs c (args.set p y) vs := by
    rw [vrs_iff]
    have := hv2.set hyv p
    rwa [set_getSelf hu] at this
  obtain ⟨w1, w2, w3⟩ := all_wr hP.extw k
  refine CallsIn.mono (runBody_sound (N := k) hP.draw (call_sound hP k) w1 (hP.dfr k (call_sound hP k)) w3 hf e1 hR hv3 n) fun e w' hr => ?_
  cases e with
  | returned val =>
    obtain ⟨c', av, m', q1, q2, q3, q4⟩ := hr
    cases q1
    exact ⟨c', _, _, rfl, q2, q3.back e2, q4⟩
  | panicked chain =>
    obtain ⟨c', x, m', q1, _⟩ := hr
    cases q1
  | _ => exact hr.elim
theorem splitE_wr {C : Cfg} (hE : ExtWr C) {f : FuncId} {fn : AFn} {p : Nat} : ∀ args m, (∀ v m', splitE C f fn p args m = some (.ret v m') → WrM m m') ∧ (∀ v m', splitE C f fn p args m = some (.pan v m') → WrM m m') := by
  intro args m
  refine ⟨fun v m' he => ?_, fun v m' he => ?_⟩
  · obtain ⟨v', h', hs, e⟩ := splitE_get he
    cases e
    have hlt := hs.lt
    have hx : args[p]? = some args[p] := List.getElem?_eq_getElem hlt
    obtain ⟨y, hy⟩ := alt_ex args[p]
    obtain ⟨k, b, m1, e1, e2, e3⟩ := hs.run _ hx y hy
    obtain ⟨i1, i2, i3⟩ := all_wr hE k
    obtain ⟨l1, ws, l2, l3⟩ := (runBody_wr i1 i3).1 _ _ _ e1
    simp only [List.append_nil] at l2 l1 l3
    have hback : h'.length = m1.h.length ∧ ∀ j, j ∉ args.flatMap avIdx → h'[j]? = m1.h[j]? := by
      unfold Back at e2
      cases heq0 : room args[p] with
      | some q =>
        rw [heq0] at e2
        obtain ⟨i, g, len, sz⟩ := q
        have heq := room_eq heq0
        obtain ⟨cs, t, q1, q2⟩ := e2
        refine ⟨by rw [q2]; simp, fun j hj => ?_⟩
        rw [q2, List.getElem?_set_ne]
        intro e
        apply hj
        rw [List.mem_flatMap]
        exact ⟨args[p], List.getElem_mem _, by rw [heq, ← e]; simp [avIdx]⟩
      | none => rw [heq0] at e2; rw [e2]; exact ⟨rfl, fun _ _ => rfl⟩
    refine ⟨by show m.h.length ≤ h'.length; omega, args.flatMap avIdx, rfl, fun j hj hn => ?_⟩
    show h'[j]? = m.h[j]?
    rw [hback.2 j hn]
    exact l3 j hj fun hw => hn (e3 j (by rw [l2]; exact hw))
  · obtain ⟨v', h', hs, e⟩ := splitE_get he
    cases e
end

/-- A call of such a function. -/
theorem CallR.split {C C' : Cfg} {f : FuncId} {fn : AFn} {p : Nat} {a b args : List AV} {m : Mem} {v : AV} {h' : List Blk} (hx : C'.ext f = some (splitE C f fn p)) (hs : SplitR C f fn p (a ++ args ++ b) m.h v h') :
    CallR C' (.fn f a b) args m (.ret v { h := h', wr := (a ++ args ++ b).flatMap avIdx ++ m.wr }) := by
  refine ⟨2, fun n hn => ?_⟩
  obtain ⟨n, rfl⟩ : ∃ k, n = k + 2 := ⟨n - 2, by omega⟩
  simp only [callN, funN, hx, splitE_eq hs, Option.map_some]
/-- One run of such a function's body. -/
theorem bodyN_of {C : Cfg} {f : FuncId} {fn : AFn} {args : List AV} {h : List Blk} {m1 m' : Mem} {v v' : AV} (hl : args.length = fn.nparams)
    (hk : ∃ n0, ∀ n, n0 ≤ n → runK (Kn C n) fn args h = some (v, m1)) (hs : Go.AM.settle C.fz (C.keepAll f) { h := h } v m1 = (v', m')) : ∃ n b, bodyN C n f fn args h = some (.ret v' m', b) := by
  obtain ⟨n0, hk⟩ := hk
  obtain ⟨o', s', vs', f1, f2, f3, f4, f5⟩ := finK_some (hk n0 (Nat.le_refl _))
  have hrd : ∀ (d : Option RV → AV → List AV → Mem → Option (CRes × Bool)) (l : List ADef) (m : Mem), runDefs (fun _ _ _ _ => none) l .returning m = some (.returning, m1) → runDefs d l .returning m = some (.returning, m1) := by
    intro d l
    induction l with
    | nil => intro m h; exact h
    | cons x l ih =>
      intro m h
      cases x with
      | dfr i =>
        simp only [runDefs] at h ⊢
        split at h <;> try (cases h; done)
        exact ih _ h
      | call f args => simp [runDefs] at h
  simp only [Kn] at f1
  refine ⟨n0, s'.recd, ?_⟩
  unfold bodyN
  rcases f2 with rfl | rfl <;> simp only [runBody, if_pos hl, f1, hrd _ _ _ f3, f4, f5, hs]

/-! ### more functions from elsewhere -/
structure CLe (C C' : Cfg) : Prop where
  prog : C'.prog = C.prog
  keep : C'.keepAll = C.keepAll
  fz : C'.fz = C.fz
  dfr : C'.dfr = C.dfr
  ext : ∀ f e, C.ext f = some e → C'.ext f = some e
  new : ∀ f, C.ext f = none → C'.ext f ≠ none → C.prog f = none
theorem cfg_mono {C C' : Cfg} (h : CLe C C') : ∀ n : Nat, (∀ f a m r, callN C n f a m = some r → callN C' n f a m = some r) ∧ (∀ f a m rec r, funN C n f a m rec = some r → funN C' n f a m rec = some r) ∧
    (∀ rec f a m r, dfrN C n rec f a m = some r → dfrN C' n rec f a m = some r) := by
  intro n
  induction n with
  | zero => exact ⟨fun f a m r e => by simp [callN] at e, fun f a m rec r e => by simp [funN] at e, fun rec f a m r e => by simp [dfrN] at e⟩
  | succ n ih =>
    obtain ⟨h1, h2, h3⟩ := ih
    have hit : ∀ (n : Nat) (g g' : St → Option (Out × St)) (s : St) (r : Out × St), (∀ s r, g s = some r → g' s = some r) → iterN n g s = some r → iterN n g' s = some r := by
      intro n
      induction n with
      | zero => intro g g' s r _ e; simp [iterN] at e
      | succ n ih =>
        intro g g' s r hg e
        unfold iterN at e ⊢
        cases k : g s with
        | none => rw [k] at e; cases e
        | some x =>
          rw [hg _ _ k]
          rw [k] at e
          obtain ⟨o, s'⟩ := x
          cases o <;> first | exact ih g g' s' r hg e | exact e
    have hK : KLe { call := callN C n, iter := iterN n } { call := callN C' n, iter := iterN n } := ⟨fun f a m r e => h1 f a m r e, fun g g' s r hg e => hit n g g' s r hg e⟩
    refine ⟨fun f a m r e => ?_, fun f a m rec r e => ?_, fun rec f a m r e => ?_⟩
    · unfold callN at e ⊢
      split at e
      · rw [Option.map_eq_some_iff] at e ⊢
        obtain ⟨x, e1, e2⟩ := e
        exact ⟨x, h2 _ _ _ _ _ e1, e2⟩
      · rw [Option.map_eq_some_iff] at e ⊢
        obtain ⟨x, e1, e2⟩ := e
        exact ⟨x, h2 _ _ _ _ _ e1, e2⟩
      · rw [h.fz]; exact runRound_mono hK e
      · cases e
    · unfold funN at e ⊢
      split at e
      · rename_i e' he
        rw [h.ext f e' he]; exact e
      · rename_i he
        split at e
        · rename_i fn hfn
          have hne : C'.ext f = none := by
            cases hx : C'.ext f with
            | none => rfl
            | some e' =>
              have := h.new f he (by rw [hx]; simp)
              rw [hfn] at this; cases this
          rw [hne, h.prog, hfn]
          have := runBody_mono hK (d' := fun rec f args m => dfrN C' n rec f args m) (fun r f a m x e => h3 r f a m x e) e
          simp only [runBody, h.fz, h.keep] at this ⊢
          exact this
        · cases e
    · unfold dfrN at e ⊢
      rw [h.dfr]
      split at e
      · exact h2 _ _ _ _ _ e
      · exact h2 _ _ _ _ _ e
      · cases e
theorem CallR.up {C C' : Cfg} (h : CLe C C') {f : AV} {a : List AV} {m : Mem} {r : CRes} (e : CallR C f a m r) : CallR C' f a m r := by
  obtain ⟨n0, e⟩ := e
  exact ⟨n0, fun n hn => (cfg_mono h n).1 _ _ _ _ (e n hn)⟩
end Go.AM
