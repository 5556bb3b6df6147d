/- The machine that the proofs walk by, and what the functions compute: part 5 of the common texts. No condition. (Own work.) -/
import Derived.Test.YthiiejahphkgnaaLQ4
set_option linter.unusedVariables false
set_option linter.unusedSimpArgs false
/- What the functions compute (own work). -/
namespace Go.AM.T
open Go Go.AM
attribute [local simp] so_mov so_pick so_alloc so_box so_build so_slit so_load so_store so_nilc so_bin so_beq so_eqs so_eqn so_eqnl so_not so_conv so_s2b so_mkfn so_slcA so_padd so_fld so_idxA so_idxV so_idxT so_look so_mupd so_mkmap so_mksl so_ext so_app so_lenT so_lenM so_min so_max so_cpy so_clr so_mkif so_tass so_lenS so_idxS so_slc
attribute [local simp] dn_skip dn_label dn_ret dn_exit dn_scope dn_keep dn_reg dn_draw0 noSlots denE denEI stepE  sd_mov sd_pick sd_build sd_load sd_store sd_nilc sd_bin sd_beq sd_eqs sd_eqn sd_eqnl sd_not sd_conv sd_s2b sd_mkfn sd_slc sd_slcA sd_padd sd_fld sd_idxS sd_idxA sd_idxV sd_idxT sd_look sd_mupd sd_ext sd_app sd_lenS sd_lenT sd_lenM sd_min sd_max sd_mkif sd_tass sd_call sd_slit dn_seq dn_cond dn_block dn_loop kn_call denIs denI denOp wants ev eget putD binL enumFrom AV.bool? AV.int? ekeep evs evp runV fin runDefs resAll resOf tupOf unit AV.cells okV ok1 Value.oneCell' fill setN rcells rs_nil rs_cons load_own load_cons mkAgg_rs storeN jmpOut
theorem C_fz : C.fz = 1000000 := rfl
theorem fzr (m : Mem) (n : Nat) (x : RV) : fz m n 1000000 (.r x) = some (.r x) := rfl

theorem In_spec (n lo hi : Int) (m : Mem) : CallR C (fnv fn_ref07_In) [i64 n, i64 lo, i64 hi] m (.ret (bo (decide (lo ≤ n) && decide (n ≤ hi))) m) := by
  by_cases h1 : lo ≤ n <;> by_cases h2 : n ≤ hi <;> exact CallR.eval0 rfl rfl prog_ref07_In rfl ⟨0, fun k _ => by simp [a_ref07_In, h1, h2, C_fz, fzr]⟩

theorem within_spec (n lo hi : Int) (m : Mem) : CallR C (fnv fn_tally_within) [i64 n, i64 lo, i64 hi] m (.ret (bo (decide (lo ≤ n) && decide (n ≤ hi))) m) := by
  by_cases h1 : lo ≤ n <;> by_cases h2 : n ≤ hi <;> exact CallR.eval0 rfl rfl prog_tally_within rfl ⟨0, fun k _ => by simp [a_tally_within, h1, h2, C_fz, fzr]⟩

/-- A slice of ints. -/
abbrev SlI (l : List Int) (v : RV) : Prop := Sl (ints .i64 l) l.length v

theorem Has_spec {l : List Int} {v : RV} (hl : SlI l v) (hb : l.length < 2 ^ 63) (n : Int) (m : Mem) : CallR C (fnv fn_ref07_Has) [.r v, i64 n] m (.ret (bo (l.contains n)) m) := by
  have key := Loop.run (C := C) (c := l_ref07_Has_0) (live := [0, 1, 5]) (fun k s => ∃ i, i + k = l.length ∧ At1 [0, 1, 5] [(0, .r v), (1, i64 n), (5, i64 i)] { h := m.h } s ∧ n ∉ l.take i)
    (fun o s => s.m = { h := m.h } ∧ s.defs = [] ∧ ((o = .ret ∧ eget s.env 4 = bo true ∧ l.contains n = true) ∨ (o = .exit 0 ∧ l.contains n = false))) (by
    rintro k s ⟨i, hik, ⟨he, hm, hd, hr⟩, hn⟩
    rw [he]
    cases k with
    | zero =>
      have hi : i = l.length := by omega
      subst hi
      exact ⟨.exit 0, _, .of fun K => by simp [l_ref07_Has_0, hl.len]; rfl, .inr ⟨by simp, by simp [hm], by simp [hd], .inr ⟨rfl, by simpa using hn⟩⟩⟩
    | succ k =>
      have hi : i < l.length := by omega
      by_cases hx : l[i] = n
      · exact ⟨.ret, _, .of fun K => by simp [l_ref07_Has_0, hl.len, hl.at hi, load_ints hi, hi, hx]; rfl, .inr ⟨by simp, by simp [hm], by simp [hd], .inl ⟨rfl, rfl, by simp [← hx]⟩⟩⟩
      · exact ⟨.norm, _, .of fun K => by simp [l_ref07_Has_0, hl.len, hl.at hi, load_ints hi, hi, hx]; rfl, .inl ⟨rfl, k, by omega, i + 1, by omega, ⟨by simp; exact w64 (by omega) (by omega), by simp [hm], by simp [hd], by simp [hr]⟩, not_mem_take_succ hi hn hx⟩⟩)
  obtain ⟨o, s, h1, h2, h3, h4, h5⟩ := key l.length { env := [(5, i64 0), (4, bo false), (0, .r v), (1, i64 n)], m := { h := m.h } } ⟨0, by simp, ⟨by simp, rfl, rfl, rfl⟩, by simp⟩
  obtain ⟨n0, h1⟩ := h1.get
  rcases h5 with ⟨rfl, h5, h6⟩ | ⟨rfl, h6⟩ <;> rw [h6]
  · exact CallR.eval0 rfl rfl prog_ref07_Has rfl ⟨n0, fun k hk => by simp [a_ref07_Has, h1 k hk, h4, h5, h3, C_fz, fzr]⟩
  · exact CallR.eval0 rfl rfl prog_ref07_Has rfl ⟨n0, fun k hk => by simp [a_ref07_Has, h1 k hk, h4, h3, C_fz, fzr]⟩

/-- Do numbers rise? -/
def risingB : List Int → Bool
  | a :: b :: r => decide (a < b) && risingB (b :: r)
  | _ => true
theorem risingB_iff : ∀ l : List Int, risingB l = true ↔ ∀ i, (h : i + 1 < l.length) → l[i] < l[i + 1]
  | [] => by simp [risingB]
  | [a] => by simp [risingB]
  | a :: b :: r => by
    rw [risingB, Bool.and_eq_true, decide_eq_true_eq, risingB_iff (b :: r)]
    constructor
    · rintro ⟨h1, h2⟩ i hi
      cases i with
      | zero => exact h1
      | succ i => exact h2 i (by simpa using hi)
    · intro h
      exact ⟨h 0 (by simp), fun i hi => h (i + 1) (by simpa using hi)⟩

theorem Rising_spec {l : List Int} {v : RV} (hl : SlI l v) (hb : l.length < 2 ^ 63) (m : Mem) : CallR C (fnv fn_ref07_Rising) [.r v] m (.ret (bo (risingB l)) m) := by
  have key := Loop.run (C := C) (c := l_ref07_Rising_0) (live := [0, 3]) (fun k s => ∃ i : Nat, i + 1 + k = max l.length 1 ∧ At1 [0, 3] [(0, .r v), (3, i64 (i + 1 : Nat))] { h := m.h } s ∧ ∀ j, j < i → (h : j + 1 < l.length) → l[j] < l[j + 1])
    (fun o s => s.m = { h := m.h } ∧ s.defs = [] ∧ ((o = .ret ∧ eget s.env 2 = bo false ∧ risingB l = false) ∨ (o = .exit 0 ∧ risingB l = true))) (by
    rintro k s ⟨i, hik, ⟨he, hm, hd, hr⟩, hn⟩
    rw [he]
    cases k with
    | zero =>
      have hi : l.length ≤ i + 1 := by omega
      have e1 : ((i : Int) + 1 < (l.length : Int)) = False := eq_false (by omega)
      refine ⟨.exit 0, _, .of fun K => by simp [l_ref07_Rising_0, hl.len, e1]; rfl, .inr ⟨by simp, by simp [hm], by simp [hd], .inr ⟨rfl, ?_⟩⟩⟩
      rw [risingB_iff]
      exact fun j hj => hn j (by omega) hj
    | succ k =>
      have hi : i + 1 < l.length := by omega
      have hi' : i < l.length := by omega
      have e1 : ((i : Int) + 1 < (l.length : Int)) = True := eq_true (by omega)
      have e2 : IntKind.wrap .i64 ((i : Int) + 1 - 1) = i := by rw [w64] <;> omega
      have e2' : IntKind.wrap .i64 ((i : Int)) = i := by rw [w64] <;> omega
      have a1 : atOf 1 (.r v) ((i : Int) + 1) = _ := hl.at (i := i + 1) (sz := 1) hi
      by_cases hx : l[i] < l[i + 1]
      · have e3 : (l[i + 1] ≤ l[i]) = False := eq_false (by omega)
        refine ⟨.norm, _, .of fun K => by simp [l_ref07_Rising_0, hl.len, e1, a1, hl.at hi', e2', load_ints hi, load_ints hi', e3]; rfl, .inl ⟨rfl, k, by omega, i + 1, by omega, ⟨?_, by simp [hm], by simp [hd], by simp [hr]⟩, fun j hj h => ?_⟩⟩
        · simp
          have := w64 (n := (i : Int) + 1 + 1) (by omega) (by omega)
          omega
        · by_cases e : j = i
          · subst e; exact hx
          · exact hn j (by omega) h
      · have e3 : (l[i + 1] ≤ l[i]) = True := eq_true (by omega)
        refine ⟨.ret, _, .of fun K => by simp [l_ref07_Rising_0, hl.len, e1, a1, hl.at hi', e2', load_ints hi, load_ints hi', e3]; rfl, .inr ⟨by simp, by simp [hm], by simp [hd], .inl ⟨rfl, rfl, ?_⟩⟩⟩
        cases h : risingB l with
        | false => rfl
        | true => exact absurd ((risingB_iff l).1 h i hi) hx)
  obtain ⟨o, s, h1, h2, h3, h4, h5⟩ := key (max l.length 1 - 1) { env := [(3, i64 1), (2, bo false), (0, .r v)], m := { h := m.h } } ⟨0, by omega, ⟨by simp, rfl, rfl, rfl⟩, by simp⟩
  obtain ⟨n0, h1⟩ := h1.get
  rcases h5 with ⟨rfl, h5, h6⟩ | ⟨rfl, h6⟩ <;> rw [h6]
  · exact CallR.eval0 rfl rfl prog_ref07_Rising rfl ⟨n0, fun k hk => by simp [a_ref07_Rising, h1 k hk, h4, h5, h3, C_fz, fzr]⟩
  · exact CallR.eval0 rfl rfl prog_ref07_Rising rfl ⟨n0, fun k hk => by simp [a_ref07_Rising, h1 k hk, h4, h3, C_fz, fzr]⟩

/-- Pairs as cells. -/
def prs (l : List (Int × Int)) : List RV := l.flatMap fun p => [.lit (.int .i64 p.1), .lit (.int .i64 p.2)]
abbrev SlP (l : List (Int × Int)) (v : RV) : Prop := Sl (prs l) l.length v

structure Div where
  n : Int
  a0 : List Int
  a1 : List Int
  n0 : List Int
  n1 : List Int
  pairs : List (Int × Int)
  proxies : List (Int × Int)
  rule : Int
  need : Int
  quorum : Int
  tie : Int

/-- The slices of a division. -/
structure DivS (d : Div) (a0 a1 n0 n1 p q : RV) : Prop where
  a0 : SlI d.a0 a0
  a1 : SlI d.a1 a1
  n0 : SlI d.n0 n0
  n1 : SlI d.n1 n1
  p : SlP d.pairs p
  q : SlP d.proxies q
def divC (d : Div) (a0 a1 n0 n1 p q : RV) : List RV :=
  [.lit (.int .i64 d.n), a0, a1, n0, n1, p, q, .lit (.int .u8 d.rule), .lit (.int .i64 d.need), .lit (.int .i64 d.quorum), .lit (.int .u8 d.tie)]

section
variable (d : Div) (a0 a1 n0 n1 p q : RV)
theorem dvL : (rs (divC d a0 a1 n0 n1 p q)).length = 11 := rfl
theorem dv0 : List.take 1 (rs (divC d a0 a1 n0 n1 p q)) = [i64 d.n] := rfl
theorem dv1 : List.take 1 (List.drop 1 (rs (divC d a0 a1 n0 n1 p q))) = [.r a0] := rfl
theorem dv2 : List.take 1 (List.drop 2 (rs (divC d a0 a1 n0 n1 p q))) = [.r a1] := rfl
theorem dv3 : List.take 1 (List.drop 3 (rs (divC d a0 a1 n0 n1 p q))) = [.r n0] := rfl
theorem dv4 : List.take 1 (List.drop 4 (rs (divC d a0 a1 n0 n1 p q))) = [.r n1] := rfl
theorem dv5 : List.take 1 (List.drop 5 (rs (divC d a0 a1 n0 n1 p q))) = [.r p] := rfl
theorem dv6 : List.take 1 (List.drop 6 (rs (divC d a0 a1 n0 n1 p q))) = [.r q] := rfl
theorem dv7 : List.take 1 (List.drop 7 (rs (divC d a0 a1 n0 n1 p q))) = [u8 d.rule] := rfl
theorem dv8 : List.take 1 (List.drop 8 (rs (divC d a0 a1 n0 n1 p q))) = [i64 d.need] := rfl
theorem dv9 : List.take 1 (List.drop 9 (rs (divC d a0 a1 n0 n1 p q))) = [i64 d.quorum] := rfl
theorem dv10 : List.take 1 (List.drop 10 (rs (divC d a0 a1 n0 n1 p q))) = [u8 d.tie] := rfl
theorem dvA : List.take 2 (List.drop 1 (rs (divC d a0 a1 n0 n1 p q))) = [.r a0, .r a1] := rfl
theorem dvN : List.take 2 (List.drop 3 (rs (divC d a0 a1 n0 n1 p q))) = [.r n0, .r n1] := rfl
theorem dv1t : List.take 1 (rs (divC d a0 a1 n0 n1 p q)).tail = [.r a0] := rfl
theorem dvAt : List.take 2 (rs (divC d a0 a1 n0 n1 p q)).tail = [.r a0, .r a1] := rfl
theorem mkAgg2 (x y : RV) : mkAgg [.r x, .r y] = .r (.agg [x, y]) := rfl
theorem dvAll : List.take 11 (rs (divC d a0 a1 n0 n1 p q)) = rs (divC d a0 a1 n0 n1 p q) := rfl
end
attribute [local simp] dvL dv1t dvAt mkAgg2 dv0 dv1 dv2 dv3 dv4 dv5 dv6 dv7 dv8 dv9 dv10 dvA dvN dvAll

def memB (n x : Int) : Bool := decide (0 ≤ x) && decide (x ≤ n - 1)

theorem all_false {l : List Int} {p : Int → Bool} {i : Nat} (hi : i < l.length) (h : p l[i] = false) : l.all p = false := by
  rw [List.all_eq_false]; exact ⟨l[i], by simp, by simp [h]⟩
theorem all_take_succ {l : List Int} {p : Int → Bool} {i : Nat} (hi : i < l.length) (h : ∀ x ∈ l.take i, p x = true) (hx : p l[i] = true) : ∀ x ∈ l.take (i + 1), p x = true := by
  intro x hm
  rw [List.take_succ_eq_append_getElem hi, List.mem_append] at hm
  rcases hm with hm | hm
  · exact h x hm
  · simp at hm; subst hm; exact hx

theorem list_spec {d : Div} {a0 a1 n0 n1 p q : RV} (hn : 1 ≤ d.n) (hn' : d.n ≤ 40) {l : List Int} {v : RV} (hl : SlI l v) (hb : l.length < 2 ^ 63) (m : Mem) :
    CallR C (fnv fn_ref07_list) [.r (.agg (divC d a0 a1 n0 n1 p q)), .r v] m (.ret (bo (l.all (memB d.n) && risingB l)) m) := by
  have hw : IntKind.wrap .i64 (d.n - 1) = d.n - 1 := by rw [w64] <;> omega
  obtain ⟨H, hH⟩ : ∃ H, H = m.h ++ [.cells (rs (divC d a0 a1 n0 n1 p q)) ty_ref07_Division 0] := ⟨_, rfl⟩
  have hc : H[m.h.length]? = some (.cells (rs (divC d a0 a1 n0 n1 p q)) ty_ref07_Division 0) := by simp [hH]
  have key := Loop.run (C := C) (c := l_ref07_list_0) (live := [1, 2, 5]) (fun k s => ∃ i : Nat, i + k = l.length ∧ At1 [1, 2, 5] [(1, .r v), (2, .own m.h.length 0 0), (5, i64 i)] { h := H } s ∧ ∀ x ∈ l.take i, memB d.n x = true)
    (fun o s => s.m = { h := H } ∧ s.defs = [] ∧ ((o = .ret ∧ eget s.env 4 = bo false ∧ l.all (memB d.n) = false) ∨ (o = .exit 0 ∧ eget s.env 1 = .r v ∧ l.all (memB d.n) = true))) (by
    rintro k s ⟨i, hik, ⟨he, hm, hd, hr⟩, hx⟩
    rw [he]
    cases k with
    | zero =>
      have hi : i = l.length := by omega
      subst hi
      exact ⟨.exit 0, _, .of fun K => by simp [l_ref07_list_0, hl.len]; rfl, .inr ⟨by simp, by simp [hm], by simp [hd], .inr ⟨rfl, by simp, by simpa using hx⟩⟩⟩
    | succ k =>
      have hi : i < l.length := by omega
      obtain ⟨c1, h1⟩ := In_spec l[i] 0 (d.n - 1) { h := H }
      cases hq : memB d.n l[i] with
      | true =>
        rw [show (decide (0 ≤ l[i]) && decide (l[i] ≤ d.n - 1)) = true from hq] at h1
        refine ⟨.norm, _, .ofN ⟨c1, fun n hn => by simp [l_ref07_list_0, hl.len, hl.at hi, load_ints hi, hi, hm, hc, hw, h1 n hn]; rfl⟩, .inl ⟨rfl, k, by omega, i + 1, by omega, ⟨?_, by simp, by simp [hd], by simp [hr]⟩, all_take_succ hi hx hq⟩⟩
        simp; exact w64 (by omega) (by omega)
      | false =>
        rw [show (decide (0 ≤ l[i]) && decide (l[i] ≤ d.n - 1)) = false from hq] at h1
        exact ⟨.ret, _, .ofN ⟨c1, fun n hn => by simp [l_ref07_list_0, hl.len, hl.at hi, load_ints hi, hi, hm, hc, hw, h1 n hn]; rfl⟩, .inr ⟨by simp, by simp, by simp [hd], .inl ⟨rfl, rfl, all_false hi hq⟩⟩⟩)
  obtain ⟨o, s, h1, h2, h3, h4, h5⟩ := key l.length { env := [(5, i64 0), (1, .r v), (2, .own m.h.length 0 0)], m := { h := H } } ⟨0, by simp, ⟨by simp, rfl, rfl, rfl⟩, by simp⟩
  obtain ⟨c0, h1⟩ := h1.get
  have ht : H.take m.h.length = m.h := by simp [hH]
  rcases h5 with ⟨rfl, h5, h6⟩ | ⟨rfl, h5, h6⟩ <;> rw [h6]
  · exact CallR.eval (m1 := { h := H }) rfl rfl prog_ref07_list rfl ⟨c0, fun k hk => by simp [a_ref07_list, ← hH, h1 k hk, h4, h5, h3, C_fz, fzr]⟩ ht (by simp)
  · obtain ⟨c1, h7⟩ := Rising_spec hl hb { h := H }
    exact CallR.eval (m1 := { h := H }) rfl rfl prog_ref07_list rfl ⟨max c0 c1, fun k hk => by simp [a_ref07_list, ← hH, h1 k (by omega), h4, h5, h3, C_fz, fzr, h7 k (by omega)]⟩ ht (by simp)

theorem wk0 : IntKind.wrap .i64 0 = 0 := rfl
theorem wk1 : IntKind.wrap .i64 1 = 1 := rfl
theorem wk2 : IntKind.wrap .i64 2 = 2 := rfl
theorem wk3 : IntKind.wrap .i64 3 = 3 := rfl

def b2i (b : Bool) : Int := if b then 1 else 0
def onB (l0 l1 : List Int) (x : Int) : Int := b2i (l0.contains x) + b2i (l1.contains x)

theorem On_spec {l0 l1 : List Int} {v0 v1 : RV} (h0 : SlI l0 v0) (h1 : SlI l1 v1) (hb0 : l0.length < 2 ^ 63) (hb1 : l1.length < 2 ^ 63) (x : Int) (m : Mem) :
    CallR C (fnv fn_ref07_On) [.r (.agg [v0, v1]), i64 x] m (.ret (i64 (onB l0 l1 x)) m) := by
  obtain ⟨H, hH⟩ : ∃ H, H = m.h ++ [.cells [.r v0, .r v1] ty_2_Sint 0] := ⟨_, rfl⟩
  have hc : H[m.h.length]? = some (.cells [.r v0, .r v1] ty_2_Sint 0) := by simp [hH]
  have ht : H.take m.h.length = m.h := by simp [hH]
  obtain ⟨c0, k0⟩ := Has_spec h0 hb0 x { h := H }
  obtain ⟨c1, k1⟩ := Has_spec h1 hb1 x { h := H }
  rw [show onB l0 l1 x = b2i (l0.contains x) + b2i (l1.contains x) from rfl]
  cases e0 : l0.contains x <;> cases e1 : l1.contains x <;> rw [e0] at k0 <;> rw [e1] at k1
  all_goals
    refine CallR.eval (m1 := { h := H }) rfl rfl prog_ref07_On rfl ⟨max c0 c1 + 5, fun k hk => ?_⟩ ht (by simp)
    obtain ⟨j, rfl⟩ : ∃ j, k = j + 5 := ⟨k - 5, by omega⟩
    simp [a_ref07_On, ← hH, goLoop, kn_iter, iterN, l_ref07_On_0, hc, k0 _ (show c0 ≤ j + 5 by omega), k1 _ (show c1 ≤ j + 5 by omega), wk1, wk2, C_fz, fzr, b2i]

def few1 (a n : List Int) : Bool := decide (a.length ≤ 45) && decide (n.length ≤ 45)
def fewB (d : Div) : Bool := few1 d.a0 d.n0 && few1 d.a1 d.n1 && decide (d.pairs.length ≤ 12) && decide (d.proxies.length ≤ 12)

theorem Few_spec {d : Div} {a0 a1 n0 n1 p q : RV} (hs : DivS d a0 a1 n0 n1 p q) (m : Mem) : CallR C (fnv fn_law07_Few) [.r (.agg (divC d a0 a1 n0 n1 p q))] m (.ret (bo (fewB d)) m) := by
  obtain ⟨H, hH⟩ : ∃ H, H = m.h ++ [.cells (rs (divC d a0 a1 n0 n1 p q)) ty_ref07_Division 0] := ⟨_, rfl⟩
  have hc : H[m.h.length]? = some (.cells (rs (divC d a0 a1 n0 n1 p q)) ty_ref07_Division 0) := by simp [hH]
  have ht : H.take m.h.length = m.h := by simp [hH]
  -- one round
  have rd : ∀ (i : Nat) (a n : List Int) (va vn : RV), SlI a va → SlI n vn → i < 2 → (rs (divC d a0 a1 n0 n1 p q))[1 + i]? = some (.r va) → (rs (divC d a0 a1 n0 n1 p q))[3 + i]? = some (.r vn) → ∀ s : St, s.m = { h := H } → s.defs = [] →
      (few1 a n = true → ∃ s', Den C l_law07_Few_0 { s with env := [(1, .own m.h.length 0 0), (3, i64 i)] } .norm s' ∧ ekeep [1, 3] s'.env = [(1, .own m.h.length 0 0), (3, i64 (i + 1 : Nat))] ∧ s'.m = { h := H } ∧ s'.defs = []) ∧
      (few1 a n = false → ∃ s', Den C l_law07_Few_0 { s with env := [(1, .own m.h.length 0 0), (3, i64 i)] } .ret s' ∧ eget s'.env 2 = bo false ∧ s'.m = { h := H } ∧ s'.defs = []) := by
    intro i a n va vn ha hn hi g1 g2 s hm hd
    have w1 : IntKind.wrap .i64 ((i : Int) + 1) = i + 1 := by rw [w64] <;> omega
    have t1 : ((i : Int) < 2) = True := eq_true (by omega)
    have r1 : List.take 1 (List.drop (1 + i) (rs (divC d a0 a1 n0 n1 p q))) = [.r va] := by
      rw [List.take_one, List.head?_drop, g1]; rfl
    have r3 : List.take 1 (List.drop (3 + i) (rs (divC d a0 a1 n0 n1 p q))) = [.r vn] := by
      rw [List.take_one, List.head?_drop, g2]; rfl
    have hl : (rs (divC d a0 a1 n0 n1 p q)).length = 11 := rfl
    have l1 : (1 + i + 1 ≤ 11) = True := eq_true (by omega)
    have l3 : (3 + i + 1 ≤ 11) = True := eq_true (by omega)
    by_cases h1 : a.length ≤ 45
    · have e1 : (45 < (a.length : Int)) = False := eq_false (by omega)
      by_cases h2 : n.length ≤ 45
      · have e2 : (45 < (n.length : Int)) = False := eq_false (by omega)
        refine ⟨fun _ => ⟨_, .of fun K => by simp [l_law07_Few_0, hm, hc, ha.len, hn.len, e1, e2, t1, r1, r3, hl, l1, l3]; rfl, by simp [w1], by simp [hm], by simp [hd]⟩, fun h => by simp [few1, h1, h2] at h⟩
      · have e2 : (45 < (n.length : Int)) = True := eq_true (by omega)
        refine ⟨fun h => by simp [few1, h2] at h, fun _ => ⟨_, .of fun K => by simp [l_law07_Few_0, hm, hc, ha.len, hn.len, e1, e2, t1, r1, r3, hl, l1, l3]; rfl, by simp, by simp [hm], by simp [hd]⟩⟩
    · have e1 : (45 < (a.length : Int)) = True := eq_true (by omega)
      refine ⟨fun h => by simp [few1, h1] at h, fun _ => ⟨_, .of fun K => by simp [l_law07_Few_0, hm, hc, ha.len, e1, t1, r1, hl, l1]; rfl, by simp, by simp [hm], by simp [hd]⟩⟩
  have ex : ∀ s : St, ekeep [1, 3] s.env = [(1, .own m.h.length 0 0), (3, i64 (2 : Nat))] → s.m = { h := H } → s.defs = [] → ∃ s', Den C l_law07_Few_0 { s with env := ekeep [1, 3] s.env } (.exit 0) s' ∧ eget s'.env 1 = .own m.h.length 0 0 ∧ s'.m = { h := H } ∧ s'.defs = [] := by
    intro s he hm hd
    rw [he]
    exact ⟨_, .of fun K => by simp [l_law07_Few_0]; rfl, by simp, by simp [hm], by simp [hd]⟩
  have fl : ∀ s, Loop C [1, 3] l_law07_Few_0 { env := [(3, i64 0), (1, .own m.h.length 0 0)], m := { h := H } } .ret s → eget s.env 2 = bo false → s.m = { h := H } → s.defs = [] →
      CallR C (fnv fn_law07_Few) [.r (.agg (divC d a0 a1 n0 n1 p q))] m (.ret (bo false) m) := by
    intro s h1 h2 h3 h4
    obtain ⟨c0, h1⟩ := h1.get
    exact CallR.eval (m1 := { h := H }) rfl rfl prog_law07_Few rfl ⟨c0, fun k hk => by simp [a_law07_Few, ← hH, h1 k hk, h2, h3, h4, C_fz, fzr]⟩ ht (by simp)
  cases f0 : few1 d.a0 d.n0 with
  | false =>
    obtain ⟨s1, d1, k1, k2, k3⟩ := (rd 0 d.a0 d.n0 a0 n0 hs.a0 hs.n0 (by omega) rfl rfl { env := [(3, i64 0), (1, .own m.h.length 0 0)], m := { h := H } } rfl rfl).2 f0
    have := fl s1 (.stop (by simpa using d1) (by simp)) k1 k2 k3
    simpa [fewB, f0] using this
  | true =>
    obtain ⟨s1, d1, k1, k2, k3⟩ := (rd 0 d.a0 d.n0 a0 n0 hs.a0 hs.n0 (by omega) rfl rfl { env := [(3, i64 0), (1, .own m.h.length 0 0)], m := { h := H } } rfl rfl).1 f0
    cases f1 : few1 d.a1 d.n1 with
    | false =>
      obtain ⟨s2, d2, q1, q2, q3⟩ := (rd 1 d.a1 d.n1 a1 n1 hs.a1 hs.n1 (by omega) rfl rfl s1 k2 k3).2 f1
      rw [← show ekeep [1, 3] s1.env = _ from k1] at d2
      have := fl s2 (.more (by simpa using d1) (.stop d2 (by simp))) q1 q2 q3
      simpa [fewB, f0, f1] using this
    | true =>
      obtain ⟨s2, d2, q1, q2, q3⟩ := (rd 1 d.a1 d.n1 a1 n1 hs.a1 hs.n1 (by omega) rfl rfl s1 k2 k3).1 f1
      rw [← show ekeep [1, 3] s1.env = _ from k1] at d2
      obtain ⟨s3, d3, r1, r2, r3⟩ := ex s2 q1 q2 q3
      have hlp : Loop C [1, 3] l_law07_Few_0 { env := [(3, i64 0), (1, .own m.h.length 0 0)], m := { h := H } } (.exit 0) s3 := .more (by simpa using d1) (.more d2 (.stop d3 (by simp)))
      obtain ⟨c0, h1⟩ := hlp.get
      rw [show fewB d = (decide (d.pairs.length ≤ 12) && decide (d.proxies.length ≤ 12)) by simp [fewB, f0, f1]]
      by_cases h5 : d.pairs.length ≤ 12
      · have e5 : ((d.pairs.length : Int) ≤ 12) = True := eq_true (by omega)
        by_cases h6 : d.proxies.length ≤ 12
        · have e6 : ((d.proxies.length : Int) ≤ 12) = True := eq_true (by omega)
          exact CallR.eval (m1 := { h := H }) rfl rfl prog_law07_Few rfl ⟨c0, fun k hk => by simp [a_law07_Few, ← hH, h1 k hk, r1, r2, r3, hc, hs.p.len, hs.q.len, h5, h6, e5, e6, C_fz, fzr]⟩ ht (by simp)
        · have e6 : ((d.proxies.length : Int) ≤ 12) = False := eq_false (by omega)
          exact CallR.eval (m1 := { h := H }) rfl rfl prog_law07_Few rfl ⟨c0, fun k hk => by simp [a_law07_Few, ← hH, h1 k hk, r1, r2, r3, hc, hs.p.len, hs.q.len, h5, h6, e5, e6, C_fz, fzr]⟩ ht (by simp)
      · have e5 : ((d.pairs.length : Int) ≤ 12) = False := eq_false (by omega)
        exact CallR.eval (m1 := { h := H }) rfl rfl prog_law07_Few rfl ⟨c0, fun k hk => by simp [a_law07_Few, ← hH, h1 k hk, r1, r2, r3, hc, hs.p.len, h5, e5, C_fz, fzr]⟩ ht (by simp)
end Go.AM.T
/- What the functions compute (own work). -/
namespace Go.AM.T
open Go Go.AM
attribute [local simp] so_mov so_pick so_alloc so_box so_build so_slit so_load so_store so_nilc so_bin so_beq so_eqs so_eqn so_eqnl so_not so_conv so_s2b so_mkfn so_slcA so_padd so_fld so_idxA so_idxV so_idxT so_look so_mupd so_mkmap so_mksl so_ext so_app so_lenT so_lenM so_min so_max so_cpy so_clr so_mkif so_tass so_lenS so_idxS so_slc
attribute [local simp] dn_skip dn_label dn_ret dn_exit dn_scope dn_keep dn_reg dn_draw0 noSlots denE denEI stepE  sd_mov sd_pick sd_build sd_load sd_store sd_nilc sd_bin sd_beq sd_eqs sd_eqn sd_eqnl sd_not sd_conv sd_s2b sd_mkfn sd_slc sd_slcA sd_padd sd_fld sd_idxS sd_idxA sd_idxV sd_idxT sd_look sd_mupd sd_ext sd_app sd_lenS sd_lenT sd_lenM sd_min sd_max sd_mkif sd_tass sd_call sd_slit dn_seq dn_cond dn_block dn_loop kn_call denIs denI denOp wants ev eget putD binL enumFrom AV.bool? AV.int? ekeep evs evp runV fin runDefs resAll resOf tupOf unit AV.cells okV ok1 Value.oneCell' fill setN rcells rs_nil rs_cons load_own load_cons mkAgg_rs storeN jmpOut
attribute [local simp] dvL dv1t dvAt mkAgg2 dv0 dv1 dv2 dv3 dv4 dv5 dv6 dv7 dv8 dv9 dv10 dvA dvN dvAll C_fz fzr
def bothB (d : Div) (m : Nat) : Bool := decide (onB d.a0 d.a1 m = 2) && decide (onB d.n0 d.n1 m = 2)
def clashB (d : Div) : Option Nat := (List.range d.n.toNat).find? (bothB d)

theorem find_none_of {p : Nat → Bool} {n : Nat} (h : ∀ j, j < n → p j = false) : (List.range n).find? p = none := by
  rw [List.find?_eq_none]; intro x hx; simp at hx; simp [h x hx]
theorem find_some_of {p : Nat → Bool} {n i : Nat} (hi : i < n) (h : ∀ j, j < i → p j = false) (hp : p i = true) : (List.range n).find? p = some i := by
  rw [List.find?_eq_some_iff_append]
  refine ⟨hp, List.range i, (List.range' (i + 1) (n - i - 1)), ?_, fun x hx => by simp at hx; simp [h x hx]⟩
  rw [List.range_eq_range', List.range_eq_range', show n = i + (1 + (n - i - 1)) by omega, ← List.range'_append_1, ← List.range'_append_1]
  simp

/-- How long its lists are. -/
structure Small (d : Div) : Prop where
  a0 : d.a0.length < 2 ^ 63
  a1 : d.a1.length < 2 ^ 63
  n0 : d.n0.length < 2 ^ 63
  n1 : d.n1.length < 2 ^ 63
  p : d.pairs.length < 2 ^ 63
  q : d.proxies.length < 2 ^ 63

theorem refClash_spec {d : Div} {a0 a1 n0 n1 p q : RV} (hs : DivS d a0 a1 n0 n1 p q) (hb : Small d) (hn : 1 ≤ d.n) (hn' : d.n ≤ 40) (m : Mem) :
    CallR C (fnv fn_ref07_Clash) [.r (.agg (divC d a0 a1 n0 n1 p q))] m (.ret (i64 (match clashB d with | some i => (i : Int) | none => -1)) m) := by
  obtain ⟨H, hH⟩ : ∃ H, H = m.h ++ [.cells (rs (divC d a0 a1 n0 n1 p q)) ty_ref07_Division 0] := ⟨_, rfl⟩
  have hc : H[m.h.length]? = some (.cells (rs (divC d a0 a1 n0 n1 p q)) ty_ref07_Division 0) := by simp [hH]
  have ht : H.take m.h.length = m.h := by simp [hH]
  have key := Loop.run (C := C) (c := l_ref07_Clash_0) (live := [1, 3]) (fun k s => ∃ i : Nat, i + k = d.n.toNat ∧ At1 [1, 3] [(1, .own m.h.length 0 0), (3, i64 i)] { h := H } s ∧ ∀ j, j < i → bothB d j = false)
    (fun o s => s.m = { h := H } ∧ s.defs = [] ∧ ((o = .ret ∧ ∃ i : Nat, eget s.env 2 = i64 i ∧ clashB d = some i) ∨ (o = .exit 0 ∧ clashB d = none))) (by
    rintro k s ⟨i, hik, ⟨he, hm, hd, hr⟩, hx⟩
    rw [he]
    cases k with
    | zero =>
      have e1 : ((i : Int) < d.n) = False := eq_false (by omega)
      exact ⟨.exit 0, _, .of fun K => by simp [l_ref07_Clash_0, hm, hc, e1]; rfl, .inr ⟨by simp, by simp, by simp [hd], .inr ⟨rfl, find_none_of (by rw [← hik]; simpa using hx)⟩⟩⟩
    | succ k =>
      have e1 : ((i : Int) < d.n) = True := eq_true (by omega)
      have w1 : IntKind.wrap .i64 ((i : Int) + 1) = i + 1 := by rw [w64] <;> omega
      obtain ⟨c1, k1⟩ := On_spec hs.a0 hs.a1 hb.a0 hb.a1 i { h := H }
      obtain ⟨c2, k2⟩ := On_spec hs.n0 hs.n1 hb.n0 hb.n1 i { h := H }
      by_cases q1 : onB d.a0 d.a1 i = 2
      · by_cases q2 : onB d.n0 d.n1 i = 2
        · exact ⟨.ret, _, .ofN ⟨max c1 c2, fun n hn => by simp [l_ref07_Clash_0, hm, hc, e1, k1 n (by omega), k2 n (by omega), q1, q2]; rfl⟩, .inr ⟨by simp, by simp, by simp [hd], .inl ⟨rfl, i, by simp, find_some_of (by omega) hx (by simp [bothB, q1, q2])⟩⟩⟩
        · have q2' : (onB d.n0 d.n1 i == 2) = false := by simpa using q2
          refine ⟨.norm, _, .ofN ⟨max c1 c2, fun n hn => by simp [l_ref07_Clash_0, hm, hc, e1, k1 n (by omega), k2 n (by omega), q1, q2', w1]; rfl⟩, .inl ⟨rfl, k, by omega, i + 1, by omega, ⟨by simp, by simp, by simp [hd], by simp [hr]⟩, fun j hj => ?_⟩⟩
          by_cases e : j = i
          · subst e; simp [bothB, q2]
          · exact hx j (by omega)
      · have q1' : (onB d.a0 d.a1 i == 2) = false := by simpa using q1
        refine ⟨.norm, _, .ofN ⟨max c1 c2, fun n hn => by simp [l_ref07_Clash_0, hm, hc, e1, k1 n (by omega), q1', w1]; rfl⟩, .inl ⟨rfl, k, by omega, i + 1, by omega, ⟨by simp, by simp, by simp [hd], by simp [hr]⟩, fun j hj => ?_⟩⟩
        by_cases e : j = i
        · subst e; simp [bothB, q1]
        · exact hx j (by omega))
  obtain ⟨o, s, h1, h2, h3, h4, h5⟩ := key d.n.toNat { env := [(3, i64 0), (1, .own m.h.length 0 0)], m := { h := H } } ⟨0, by simp, ⟨by simp, rfl, rfl, rfl⟩, by simp⟩
  obtain ⟨c0, h1⟩ := h1.get
  rcases h5 with ⟨rfl, i, h5, h6⟩ | ⟨rfl, h6⟩ <;> rw [h6]
  · exact CallR.eval (m1 := { h := H }) rfl rfl prog_ref07_Clash rfl ⟨c0, fun k hk => by simp [a_ref07_Clash, ← hH, h1 k hk, h4, h5, h3]⟩ ht (by simp)
  · exact CallR.eval (m1 := { h := H }) rfl rfl prog_ref07_Clash rfl ⟨c0, fun k hk => by simp [a_ref07_Clash, ← hH, h1 k hk, h4, h3]⟩ ht (by simp)
end Go.AM.T
/- What the functions compute (own work). -/
namespace Go.AM.T
open Go Go.AM
attribute [local simp] so_mov so_pick so_alloc so_box so_build so_slit so_load so_store so_nilc so_bin so_beq so_eqs so_eqn so_eqnl so_not so_conv so_s2b so_mkfn so_slcA so_padd so_fld so_idxA so_idxV so_idxT so_look so_mupd so_mkmap so_mksl so_ext so_app so_lenT so_lenM so_min so_max so_cpy so_clr so_mkif so_tass so_lenS so_idxS so_slc
attribute [local simp] dn_skip dn_label dn_ret dn_exit dn_scope dn_keep dn_reg dn_draw0 noSlots denE denEI stepE  sd_mov sd_pick sd_build sd_load sd_store sd_nilc sd_bin sd_beq sd_eqs sd_eqn sd_eqnl sd_not sd_conv sd_s2b sd_mkfn sd_slc sd_slcA sd_padd sd_fld sd_idxS sd_idxA sd_idxV sd_idxT sd_look sd_mupd sd_ext sd_app sd_lenS sd_lenT sd_lenM sd_min sd_max sd_mkif sd_tass sd_call sd_slit dn_seq dn_cond dn_block dn_loop kn_call denIs denI denOp wants ev eget putD binL enumFrom AV.bool? AV.int? ekeep evs evp runV fin runDefs resAll resOf tupOf unit AV.cells okV ok1 Value.oneCell' fill setN rcells rs_nil rs_cons load_own load_cons mkAgg_rs storeN jmpOut
attribute [local simp] dvL dv1t dvAt mkAgg2 dv0 dv1 dv2 dv3 dv4 dv5 dv6 dv7 dv8 dv9 dv10 dvA dvN dvAll C_fz fzr
theorem prs_drop {l : List (Int × Int)} {i : Nat} (hi : i < l.length) : (prs l).drop (i * 2) = .lit (.int .i64 l[i].1) :: .lit (.int .i64 l[i].2) :: (prs l).drop ((i + 1) * 2) := by
  induction l generalizing i with
  | nil => simp at hi
  | cons a l ih =>
    cases i with
    | zero => simp [prs]
    | succ i =>
      have := ih (i := i) (by simpa using hi)
      simp only [prs, List.flatMap_cons] at this ⊢
      rw [show (i + 1) * 2 = i * 2 + 2 by omega, show (i + 1 + 1) * 2 = (i + 1) * 2 + 2 by omega]
      simpa [List.drop_append] using this
theorem load_prs {m : Mem} {l : List (Int × Int)} {i : Nat} (hi : i < l.length) : loadV m (.r (.ptr ((prs l).drop (i * 2)))) 2 true = some (.r (.agg [.lit (.int .i64 l[i].1), .lit (.int .i64 l[i].2)])) := by
  rw [prs_drop hi]; simp [loadV, loadN, rs, mkAgg, allR, AV.toR]

/-- What a heap holds of a boxed division. -/
structure HF (m : Mem) (d : Div) (a0 a1 n0 n1 p q : RV) (H : List Blk) (W : List Nat) : Prop where
  div : H[m.h.length]? = some (.cells (rs (divC d a0 a1 n0 n1 p q)) ty_ref07_Division 0)
  tk : H.take m.h.length = m.h
  wr : ∀ x ∈ W, m.h.length ≤ x

theorem HF.lt {m : Mem} {d : Div} {a0 a1 n0 n1 p q : RV} {H : List Blk} {W : List Nat} (h : HF m d a0 a1 n0 n1 p q H W) : m.h.length < H.length := getElem?_lt h.div
theorem HF.push {m : Mem} {d : Div} {a0 a1 n0 n1 p q : RV} {H : List Blk} {W : List Nat} (h : HF m d a0 a1 n0 n1 p q H W) (b : Blk) : HF m d a0 a1 n0 n1 p q (H ++ [b]) (H.length :: W) := by
  have hl := h.lt
  refine ⟨?_, ?_, fun x hx => ?_⟩
  · rw [List.getElem?_append_left hl]; exact h.div
  · rw [List.take_append_of_le_length (Nat.le_of_lt hl)]; exact h.tk
  · rcases List.mem_cons.1 hx with rfl | hx
    · omega
    · exact h.wr x hx

def pairBad (n : Int) (p : Int × Int) : Bool := !memB n p.1 || !memB n p.2 || p.1 == p.2
def clashP (p q : Int × Int) : Bool := p.1 == q.1 || p.1 == q.2 || p.2 == q.1 || p.2 == q.2
def pairsOk' (n : Int) : List (Int × Int) → List (Int × Int) → Bool
  | _, [] => true
  | seen, p :: r => !pairBad n p && seen.all (fun q => !clashP p q) && pairsOk' n (seen ++ [p]) r

section
variable {d : Div} {a0 a1 n0 n1 p q : RV}

/-- The inner loop over pairs. -/
theorem Right_pairs_inner (hs : DivS d a0 a1 n0 n1 p q) (hb : Small d) (m : Mem) {i b5 : Nat} (hi : i < d.pairs.length) : ∀ (H : List Blk) (W : List Nat), HF m d a0 a1 n0 n1 p q H W → H[b5]? = some (.cells [i64 d.pairs[i].1, i64 d.pairs[i].2] ty_ref07_Pair 0) →
    ∀ s : St, ekeep [1, 4, 5, 6] s.env = [(1, .own m.h.length 0 0), (4, i64 i), (5, .own b5 0 0), (6, i64 0)] → s.m = { h := H, wr := W } → s.defs = [] →
    ∃ o s' H' W', Loop C [1, 4, 5, 6] l_ref07_Right_2 s o s' ∧ s'.m = { h := H', wr := W' } ∧ HF m d a0 a1 n0 n1 p q H' W' ∧ s'.defs = [] ∧
      ((o = .ret ∧ eget s'.env 2 = bo false ∧ (d.pairs.take i).all (fun x => !clashP d.pairs[i] x) = false) ∨
       (o = .exit 4 ∧ eget s'.env 1 = .own m.h.length 0 0 ∧ eget s'.env 4 = i64 i ∧ (d.pairs.take i).all (fun x => !clashP d.pairs[i] x) = true)) := by
  intro H W hF hb5 s he hm hd
  have key := Loop.run (C := C) (c := l_ref07_Right_2) (live := [1, 4, 5, 6]) (fun k s => ∃ (j : Nat) (H : List Blk) (W : List Nat), j + k = i ∧ ekeep [1, 4, 5, 6] s.env = [(1, .own m.h.length 0 0), (4, i64 i), (5, .own b5 0 0), (6, i64 j)] ∧ s.m = { h := H, wr := W } ∧
      HF m d a0 a1 n0 n1 p q H W ∧ H[b5]? = some (.cells [i64 d.pairs[i].1, i64 d.pairs[i].2] ty_ref07_Pair 0) ∧ s.defs = [] ∧ ∀ x ∈ d.pairs.take j, clashP d.pairs[i] x = false)
    (fun o s' => ∃ H' W', s'.m = { h := H', wr := W' } ∧ HF m d a0 a1 n0 n1 p q H' W' ∧ s'.defs = [] ∧
      ((o = .ret ∧ eget s'.env 2 = bo false ∧ (d.pairs.take i).all (fun x => !clashP d.pairs[i] x) = false) ∨
       (o = .exit 4 ∧ eget s'.env 1 = .own m.h.length 0 0 ∧ eget s'.env 4 = i64 i ∧ (d.pairs.take i).all (fun x => !clashP d.pairs[i] x) = true))) (by
    rintro k s ⟨j, H, W, hjk, he, hm, hF, hb5, hd, hx⟩
    rw [he]
    cases k with
    | zero =>
      have hj : j = i := by omega
      subst hj
      refine ⟨.exit 4, _, .of fun K => by simp [l_ref07_Right_2]; rfl, .inr ⟨by simp, H, W, by simp [hm], hF, by simp [hd], .inr ⟨rfl, by simp, by simp, ?_⟩⟩⟩
      rw [List.all_eq_true]; intro x hx'; simp [hx x hx']
    | succ k =>
      have hj : j < d.pairs.length := by omega
      have t1 : ((j : Int) < (i : Int)) = True := eq_true (by omega)
      have w1 : IntKind.wrap .i64 ((j : Int) + 1) = j + 1 := by have := hb.p; rw [w64] <;> omega
      have hb5' : b5 < H.length := getElem?_lt hb5
      have hbA : ∀ b, (H ++ [b])[b5]? = H[b5]? := fun b => List.getElem?_append_left hb5'
      have hne : ∀ x y : Int, (x == y) = decide (x = y) := fun x y => rfl
      have fin : clashP d.pairs[i] d.pairs[j] = true → (d.pairs.take i).all (fun x => !clashP d.pairs[i] x) = false := fun h => by
        rw [List.all_eq_false]
        exact ⟨d.pairs[j], by rw [List.mem_take_iff_getElem]; exact ⟨j, by omega, rfl⟩, by simp [h]⟩
      have go : clashP d.pairs[i] d.pairs[j] = false → ∀ x ∈ d.pairs.take (j + 1), clashP d.pairs[i] x = false := fun h x hm => by
        rw [List.take_succ_eq_append_getElem hj, List.mem_append] at hm
        rcases hm with hm | hm
        · exact hx x hm
        · simp at hm; subst hm; exact h
      by_cases c1 : d.pairs[i].1 = d.pairs[j].1
      · refine ⟨.ret, _, .of fun K => by simp [l_ref07_Right_2, hm, hF.div, hs.p.at hj, load_prs hj, t1, hbA, hb5, c1]; rfl, .inr ⟨by simp, _, _, rfl, hF.push _, by simp [hd], .inl ⟨rfl, by simp, fin (by simp [clashP, c1])⟩⟩⟩
      have c1' : (d.pairs[i].1 == d.pairs[j].1) = false := by simpa using c1
      by_cases c2 : d.pairs[i].1 = d.pairs[j].2
      · have c2b : (d.pairs[i].1 == d.pairs[j].2) = true := by simpa using c2
        refine ⟨.ret, _, .of fun K => by simp [l_ref07_Right_2, hm, hF.div, hs.p.at hj, load_prs hj, t1, hbA, hb5, c1', c2b]; rfl, .inr ⟨by simp, _, _, rfl, hF.push _, by simp [hd], .inl ⟨rfl, by simp, fin (by simp [clashP, c2])⟩⟩⟩
      have c2' : (d.pairs[i].1 == d.pairs[j].2) = false := by simpa using c2
      by_cases c3 : d.pairs[i].2 = d.pairs[j].1
      · have c3b : (d.pairs[i].2 == d.pairs[j].1) = true := by simpa using c3
        refine ⟨.ret, _, .of fun K => by simp [l_ref07_Right_2, hm, hF.div, hs.p.at hj, load_prs hj, t1, hbA, hb5, c1', c2', c3b]; rfl, .inr ⟨by simp, _, _, rfl, hF.push _, by simp [hd], .inl ⟨rfl, by simp, fin (by simp [clashP, c3])⟩⟩⟩
      have c3' : (d.pairs[i].2 == d.pairs[j].1) = false := by simpa using c3
      by_cases c4 : d.pairs[i].2 = d.pairs[j].2
      · have c4b : (d.pairs[i].2 == d.pairs[j].2) = true := by simpa using c4
        refine ⟨.ret, _, .of fun K => by simp [l_ref07_Right_2, hm, hF.div, hs.p.at hj, load_prs hj, t1, hbA, hb5, c1', c2', c3', c4b]; rfl, .inr ⟨by simp, _, _, rfl, hF.push _, by simp [hd], .inl ⟨rfl, by simp, fin (by simp [clashP, c4])⟩⟩⟩
      have c4' : (d.pairs[i].2 == d.pairs[j].2) = false := by simpa using c4
      refine ⟨.norm, _, .of fun K => by simp [l_ref07_Right_2, hm, hF.div, hs.p.at hj, load_prs hj, t1, hbA, hb5, c1', c2', c3', c4', w1]; rfl, .inl ⟨rfl, k, by omega, j + 1, _, _, by omega, by simp, rfl, hF.push _, ?_, by simp [hd], go (by simp [clashP, c1, c2, c3, c4])⟩⟩
      rw [hbA]; exact hb5)
  obtain ⟨o, s', h1, h2, H', W', h3⟩ := key i s ⟨0, H, W, by omega, he, hm, hF, hb5, hd, by simp⟩
  exact ⟨o, s', H', W', h1, h3⟩

/-- The loop over pairs. -/
theorem Right_pairs (hs : DivS d a0 a1 n0 n1 p q) (hb : Small d) (hn : 1 ≤ d.n) (hn' : d.n ≤ 40) (m : Mem) : ∀ (H : List Blk) (W : List Nat), HF m d a0 a1 n0 n1 p q H W →
    ∀ s : St, ekeep [1, 4] s.env = [(1, .own m.h.length 0 0), (4, i64 0)] → s.m = { h := H, wr := W } → s.defs = [] →
    ∃ o s' H' W', Loop C [1, 4] l_ref07_Right_3 s o s' ∧ s'.m = { h := H', wr := W' } ∧ HF m d a0 a1 n0 n1 p q H' W' ∧ s'.defs = [] ∧
      ((o = .ret ∧ eget s'.env 2 = bo false ∧ pairsOk' d.n [] d.pairs = false) ∨ (o = .exit 2 ∧ eget s'.env 1 = .own m.h.length 0 0 ∧ pairsOk' d.n [] d.pairs = true)) := by
  intro H W hF s he hm hd
  have key := Loop.run (C := C) (c := l_ref07_Right_3) (live := [1, 4]) (fun k s => ∃ (j : Nat) (H : List Blk) (W : List Nat), j + k = d.pairs.length ∧ ekeep [1, 4] s.env = [(1, .own m.h.length 0 0), (4, i64 j)] ∧ s.m = { h := H, wr := W } ∧
      HF m d a0 a1 n0 n1 p q H W ∧ s.defs = [] ∧ pairsOk' d.n [] d.pairs = pairsOk' d.n (d.pairs.take j) (d.pairs.drop j))
    (fun o s' => ∃ H' W', s'.m = { h := H', wr := W' } ∧ HF m d a0 a1 n0 n1 p q H' W' ∧ s'.defs = [] ∧
      ((o = .ret ∧ eget s'.env 2 = bo false ∧ pairsOk' d.n [] d.pairs = false) ∨ (o = .exit 2 ∧ eget s'.env 1 = .own m.h.length 0 0 ∧ pairsOk' d.n [] d.pairs = true))) (by
    rintro k s ⟨j, H, W, hjk, he, hm, hF, hd, hx⟩
    rw [he]
    cases k with
    | zero =>
      have hj : j = d.pairs.length := by omega
      subst hj
      refine ⟨.exit 2, _, .of fun K => by simp [l_ref07_Right_3, hm, hF.div, hs.p.len]; rfl, .inr ⟨by simp, H, W, by simp, hF, by simp [hd], .inr ⟨rfl, by simp, ?_⟩⟩⟩
      rw [hx]; simp [pairsOk']
    | succ k =>
      have hj : j < d.pairs.length := by omega
      have w1 : IntKind.wrap .i64 ((j : Int) + 1) = j + 1 := by have := hb.p; rw [w64] <;> omega
      have hw : IntKind.wrap .i64 (d.n - 1) = d.n - 1 := by rw [w64] <;> omega
      have hdr : d.pairs.drop j = d.pairs[j] :: d.pairs.drop (j + 1) := List.drop_eq_getElem_cons hj
      have hlt := hF.lt
      have hA : ∀ b, (H ++ [b])[m.h.length]? = some (.cells (rs (divC d a0 a1 n0 n1 p q)) ty_ref07_Division 0) := fun b => by rw [List.getElem?_append_left hlt]; exact hF.div
      obtain ⟨M, hM⟩ : ∃ M : Mem, M = { h := H ++ [.cells [i64 d.pairs[j].1, i64 d.pairs[j].2] ty_ref07_Pair 0], wr := H.length :: W } := ⟨_, rfl⟩
      have bad : pairBad d.n d.pairs[j] = true → pairsOk' d.n [] d.pairs = false := fun h => by rw [hx, hdr]; simp [pairsOk', h]
      obtain ⟨c1, k1⟩ := In_spec d.pairs[j].1 0 (d.n - 1) M
      obtain ⟨c2, k2⟩ := In_spec d.pairs[j].2 0 (d.n - 1) M
      rw [show (decide (0 ≤ d.pairs[j].1) && decide (d.pairs[j].1 ≤ d.n - 1)) = memB d.n d.pairs[j].1 from rfl] at k1
      rw [show (decide (0 ≤ d.pairs[j].2) && decide (d.pairs[j].2 ≤ d.n - 1)) = memB d.n d.pairs[j].2 from rfl] at k2
      rw [hM] at k1 k2
      cases m1 : memB d.n d.pairs[j].1 with
      | false =>
        rw [m1] at k1
        refine ⟨.ret, _, .ofN ⟨c1, fun n hn => by simp [l_ref07_Right_3, hm, hF.div, hs.p.len, hs.p.at hj, load_prs hj, hj, hA, hw, k1 n hn]; rfl⟩, .inr ⟨by simp, _, _, rfl, hF.push _, by simp [hd], .inl ⟨rfl, by simp, bad (by simp [pairBad, m1])⟩⟩⟩
      | true =>
        rw [m1] at k1
        cases m2 : memB d.n d.pairs[j].2 with
        | false =>
          rw [m2] at k2
          refine ⟨.ret, _, .ofN ⟨max c1 c2, fun n hn => by simp [l_ref07_Right_3, hm, hF.div, hs.p.len, hs.p.at hj, load_prs hj, hj, hA, hw, k1 n (by omega), k2 n (by omega)]; rfl⟩, .inr ⟨by simp, _, _, rfl, hF.push _, by simp [hd], .inl ⟨rfl, by simp, bad (by simp [pairBad, m2])⟩⟩⟩
        | true =>
          rw [m2] at k2
          cases e3 : (d.pairs[j].1 == d.pairs[j].2) with
          | true =>
            refine ⟨.ret, _, .ofN ⟨max c1 c2, fun n hn => by simp [l_ref07_Right_3, hm, hF.div, hs.p.len, hs.p.at hj, load_prs hj, hj, hA, hw, k1 n (by omega), k2 n (by omega), e3]; rfl⟩, .inr ⟨by simp, _, _, rfl, hF.push _, by simp [hd], .inl ⟨rfl, by simp, bad (by simp [pairBad, e3])⟩⟩⟩
          | false =>
            -- the inner loop
            obtain ⟨o, s1, H1, W1, g1, g2, g3, g4, g5⟩ := Right_pairs_inner hs hb m (i := j) (b5 := H.length) hj _ _ (hF.push (.cells [i64 d.pairs[j].1, i64 d.pairs[j].2] ty_ref07_Pair 0)) (by simp)
              { env := [(6, i64 0), (1, .own m.h.length 0 0), (4, i64 j), (5, .own H.length 0 0), (108, bo false)], m := { h := H ++ [.cells [i64 d.pairs[j].1, i64 d.pairs[j].2] ty_ref07_Pair 0], wr := H.length :: W }, defs := s.defs, round := s.round, rcv := s.rcv, recd := s.recd } (by simp) rfl hd
            obtain ⟨c3, k3⟩ := g1.get
            have hpb : pairBad d.n d.pairs[j] = false := by simp [pairBad, m1, m2, e3]
            rcases g5 with ⟨rfl, g5, g6⟩ | ⟨rfl, g5, g7, g6⟩
            · refine ⟨.ret, _, .ofN ⟨max (max c1 c2) c3, fun n hn => by simp [l_ref07_Right_3, hm, hF.div, hs.p.len, hs.p.at hj, load_prs hj, hj, hA, hw, k1 n (by omega), k2 n (by omega), e3, k3 n (by omega)] <;> rfl⟩, .inr ⟨by simp, _, _, g2, g3, g4, .inl ⟨rfl, g5, ?_⟩⟩⟩
              rw [hx, hdr]; simp only [pairsOk', g6]; simp
            · refine ⟨.norm, { s1 with env := [(1, .own m.h.length 0 0), (4, i64 (j + 1))] }, .ofN ⟨max (max c1 c2) c3, fun n hn => by simp [l_ref07_Right_3, hm, hF.div, hs.p.len, hs.p.at hj, load_prs hj, hj, hA, hw, k1 n (by omega), k2 n (by omega), e3, k3 n (by omega), g5, g7, w1]⟩, .inl ⟨rfl, k, by omega, j + 1, _, _, by omega, by simp, g2, g3, by simp [g4], ?_⟩⟩
              rw [hx, hdr]
              simp only [pairsOk', g6, hpb]
              rw [List.take_succ_eq_append_getElem hj]
              simp)
  obtain ⟨o, s', h1, h2, H', W', h3⟩ := key d.pairs.length s ⟨0, H, W, by omega, he, hm, hF, hd, by simp⟩
  exact ⟨o, s', H', W', h1, h3⟩
end
end Go.AM.T
/- What the functions compute (own work). -/
namespace Go.AM.T
open Go Go.AM
attribute [local simp] so_mov so_pick so_alloc so_box so_build so_slit so_load so_store so_nilc so_bin so_beq so_eqs so_eqn so_eqnl so_not so_conv so_s2b so_mkfn so_slcA so_padd so_fld so_idxA so_idxV so_idxT so_look so_mupd so_mkmap so_mksl so_ext so_app so_lenT so_lenM so_min so_max so_cpy so_clr so_mkif so_tass so_lenS so_idxS so_slc
attribute [local simp] dn_skip dn_label dn_ret dn_exit dn_scope dn_keep dn_reg dn_draw0 noSlots denE denEI stepE  sd_mov sd_pick sd_build sd_load sd_store sd_nilc sd_bin sd_beq sd_eqs sd_eqn sd_eqnl sd_not sd_conv sd_s2b sd_mkfn sd_slc sd_slcA sd_padd sd_fld sd_idxS sd_idxA sd_idxV sd_idxT sd_look sd_mupd sd_ext sd_app sd_lenS sd_lenT sd_lenM sd_min sd_max sd_mkif sd_tass sd_call sd_slit dn_seq dn_cond dn_block dn_loop kn_call denIs denI denOp wants ev eget putD binL enumFrom AV.bool? AV.int? ekeep evs evp runV fin runDefs resAll resOf tupOf unit AV.cells okV ok1 Value.oneCell' fill setN rcells rs_nil rs_cons load_own load_cons mkAgg_rs storeN jmpOut
attribute [local simp] dvL dv1t dvAt mkAgg2 dv0 dv1 dv2 dv3 dv4 dv5 dv6 dv7 dv8 dv9 dv10 dvA dvN dvAll C_fz fzr
theorem load_prs1 {m : Mem} {l : List (Int × Int)} {i : Nat} (hi : i < l.length) : loadV m (.r (.ptr ((prs l).drop (i * 2)))) 1 false = some (i64 l[i].1) := by
  rw [prs_drop hi]; simp
theorem load_prs2 {m : Mem} {l : List (Int × Int)} {i : Nat} (hi : i < l.length) : loadV m (.r (.ptr ((prs l).drop (i * 2 + 1)))) 1 false = some (i64 l[i].2) := by
  have : (prs l).drop (i * 2 + 1) = ((prs l).drop (i * 2)).drop 1 := by simp
  rw [this, prs_drop hi]; simp

def proxC (l : List (Int × Int)) (i k : Nat) : Bool := (k != i && (l.getD k (0, 0)).2 == (l.getD i (0, 0)).2) || (l.getD k (0, 0)).1 == (l.getD i (0, 0)).2
def proxI (n : Int) (l : List (Int × Int)) (i : Nat) : Bool := !pairBad n (l.getD i (0, 0)) && (List.range l.length).all fun k => !proxC l i k
def proxOk (n : Int) (l : List (Int × Int)) : Bool := (List.range l.length).all (proxI n l)

theorem range_all_of {p : Nat → Bool} {n : Nat} (h : ∀ j, j < n → p j = true) : (List.range n).all p = true := by
  rw [List.all_eq_true]; intro x hx; simp at hx; exact h x hx
theorem range_all_not {p : Nat → Bool} {n i : Nat} (hi : i < n) (h : p i = false) : (List.range n).all p = false := by
  rw [List.all_eq_false]; exact ⟨i, by simpa using hi, by simp [h]⟩
theorem getD_get {α : Type} {l : List α} {x : α} {i : Nat} (hi : i < l.length) : l.getD i x = l[i] := by simp [hi]

section
variable {d : Div} {a0 a1 n0 n1 p q : RV}

/-- The inner loop over proxies. -/
theorem Right_prox_inner (hs : DivS d a0 a1 n0 n1 p q) (hb : Small d) (m : Mem) {i b9 : Nat} (hi : i < d.proxies.length) : ∀ (H : List Blk) (W : List Nat), HF m d a0 a1 n0 n1 p q H W → H[b9]? = some (.cells [i64 d.proxies[i].1, i64 d.proxies[i].2] ty_ref07_Proxy 0) →
    ∀ s : St, ekeep [1, 8, 9, 10] s.env = [(1, .own m.h.length 0 0), (8, i64 i), (9, .own b9 0 0), (10, i64 0)] → s.m = { h := H, wr := W } → s.defs = [] →
    ∃ o s', Loop C [1, 8, 9, 10] l_ref07_Right_0 s o s' ∧ s'.m = { h := H, wr := W } ∧ s'.defs = [] ∧
      ((o = .ret ∧ eget s'.env 2 = bo false ∧ (List.range d.proxies.length).all (fun k => !proxC d.proxies i k) = false) ∨
       (o = .exit 8 ∧ eget s'.env 1 = .own m.h.length 0 0 ∧ eget s'.env 8 = i64 i ∧ (List.range d.proxies.length).all (fun k => !proxC d.proxies i k) = true)) := by
  intro H W hF hb5 s he hm hd
  have key := Loop.run (C := C) (c := l_ref07_Right_0) (live := [1, 8, 9, 10]) (fun k s => ∃ (j : Nat), j + k = d.proxies.length ∧ ekeep [1, 8, 9, 10] s.env = [(1, .own m.h.length 0 0), (8, i64 i), (9, .own b9 0 0), (10, i64 j)] ∧ s.m = { h := H, wr := W } ∧
      s.defs = [] ∧ ∀ x, x < j → proxC d.proxies i x = false)
    (fun o s' => s'.m = { h := H, wr := W } ∧ s'.defs = [] ∧
      ((o = .ret ∧ eget s'.env 2 = bo false ∧ (List.range d.proxies.length).all (fun k => !proxC d.proxies i k) = false) ∨
       (o = .exit 8 ∧ eget s'.env 1 = .own m.h.length 0 0 ∧ eget s'.env 8 = i64 i ∧ (List.range d.proxies.length).all (fun k => !proxC d.proxies i k) = true))) (by
    rintro k s ⟨j, hjk, he, hm, hd, hx⟩
    rw [he]
    cases k with
    | zero =>
      have hj : j = d.proxies.length := by omega
      subst hj
      refine ⟨.exit 8, _, .of fun K => by simp [l_ref07_Right_0, hm, hF.div, hs.q.len]; rfl, .inr ⟨by simp, by simp, by simp [hd], .inr ⟨rfl, by simp, by simp, range_all_of fun j hj => by simp [hx j hj]⟩⟩⟩
    | succ k =>
      have hj : j < d.proxies.length := by omega
      have t1 : ((j : Int) < (d.proxies.length : Int)) = True := eq_true (by omega)
      have w1 : IntKind.wrap .i64 ((j : Int) + 1) = j + 1 := by have := hb.q; rw [w64] <;> omega
      have pc : proxC d.proxies i j = ((j != i && d.proxies[j].2 == d.proxies[i].2) || d.proxies[j].1 == d.proxies[i].2) := by
        unfold proxC; rw [getD_get hj, getD_get hi]
      have fin : proxC d.proxies i j = true → (List.range d.proxies.length).all (fun k => !proxC d.proxies i k) = false := fun h => range_all_not hj (by simp [h])
      have go : proxC d.proxies i j = false → ∀ x, x < j + 1 → proxC d.proxies i x = false := fun h x hxj => by
        by_cases e : x = j
        · subst e; exact h
        · exact hx x (by omega)
      by_cases e1 : j = i
      · have q1 : ((j : Int) != (i : Int)) = false := by simp [e1]
        have q1' : (j != i) = false := by simp [e1]
        cases e3 : (d.proxies[j].1 == d.proxies[i].2) with
        | true => refine ⟨.ret, _, .of fun K => by simp [l_ref07_Right_0, hm, hF.div, hs.q.len, hs.q.at hj, load_prs1 hj, load_prs2 hj, t1, hb5, q1, e3]; rfl, .inr ⟨by simp, by simp, by simp [hd], .inl ⟨rfl, by simp, fin (by rw [pc, e3]; simp)⟩⟩⟩
        | false => refine ⟨.norm, _, .of fun K => by simp [l_ref07_Right_0, hm, hF.div, hs.q.len, hs.q.at hj, load_prs1 hj, load_prs2 hj, t1, hb5, q1, e3, w1]; rfl, .inl ⟨rfl, k, by omega, j + 1, by omega, by simp, by simp, by simp [hd], go (by rw [pc, q1', e3]; simp)⟩⟩
      · have q1 : ((j : Int) != (i : Int)) = true := by rw [bne_iff_ne]; omega
        have q1' : (j != i) = true := by rw [bne_iff_ne]; exact e1
        cases e2 : (d.proxies[j].2 == d.proxies[i].2) with
        | true => refine ⟨.ret, _, .of fun K => by simp [l_ref07_Right_0, hm, hF.div, hs.q.len, hs.q.at hj, load_prs1 hj, load_prs2 hj, t1, hb5, q1, e2]; rfl, .inr ⟨by simp, by simp, by simp [hd], .inl ⟨rfl, by simp, fin (by rw [pc, q1', e2]; simp)⟩⟩⟩
        | false =>
          cases e3 : (d.proxies[j].1 == d.proxies[i].2) with
          | true => refine ⟨.ret, _, .of fun K => by simp [l_ref07_Right_0, hm, hF.div, hs.q.len, hs.q.at hj, load_prs1 hj, load_prs2 hj, t1, hb5, q1, e2, e3]; rfl, .inr ⟨by simp, by simp, by simp [hd], .inl ⟨rfl, by simp, fin (by rw [pc, e3]; simp)⟩⟩⟩
          | false => refine ⟨.norm, _, .of fun K => by simp [l_ref07_Right_0, hm, hF.div, hs.q.len, hs.q.at hj, load_prs1 hj, load_prs2 hj, t1, hb5, q1, e2, e3, w1]; rfl, .inl ⟨rfl, k, by omega, j + 1, by omega, by simp, by simp, by simp [hd], go (by rw [pc, e2, e3]; simp)⟩⟩)
  obtain ⟨o, s', h1, h2, h3⟩ := key d.proxies.length s ⟨0, by omega, he, hm, hd, by simp⟩
  exact ⟨o, s', h1, h3⟩

/-- The loop over proxies. -/
theorem Right_prox (hs : DivS d a0 a1 n0 n1 p q) (hb : Small d) (hn : 1 ≤ d.n) (hn' : d.n ≤ 40) (m : Mem) : ∀ (H : List Blk) (W : List Nat), HF m d a0 a1 n0 n1 p q H W →
    ∀ s : St, ekeep [1, 8] s.env = [(1, .own m.h.length 0 0), (8, i64 0)] → s.m = { h := H, wr := W } → s.defs = [] →
    ∃ o s' H' W', Loop C [1, 8] l_ref07_Right_1 s o s' ∧ s'.m = { h := H', wr := W' } ∧ HF m d a0 a1 n0 n1 p q H' W' ∧ s'.defs = [] ∧
      ((o = .ret ∧ eget s'.env 2 = bo false ∧ proxOk d.n d.proxies = false) ∨ (o = .exit 6 ∧ eget s'.env 1 = .own m.h.length 0 0 ∧ proxOk d.n d.proxies = true)) := by
  intro H W hF s he hm hd
  have key := Loop.run (C := C) (c := l_ref07_Right_1) (live := [1, 8]) (fun k s => ∃ (j : Nat) (H : List Blk) (W : List Nat), j + k = d.proxies.length ∧ ekeep [1, 8] s.env = [(1, .own m.h.length 0 0), (8, i64 j)] ∧ s.m = { h := H, wr := W } ∧
      HF m d a0 a1 n0 n1 p q H W ∧ s.defs = [] ∧ ∀ x, x < j → proxI d.n d.proxies x = true)
    (fun o s' => ∃ H' W', s'.m = { h := H', wr := W' } ∧ HF m d a0 a1 n0 n1 p q H' W' ∧ s'.defs = [] ∧
      ((o = .ret ∧ eget s'.env 2 = bo false ∧ proxOk d.n d.proxies = false) ∨ (o = .exit 6 ∧ eget s'.env 1 = .own m.h.length 0 0 ∧ proxOk d.n d.proxies = true))) (by
    rintro k s ⟨j, H, W, hjk, he, hm, hF, hd, hx⟩
    rw [he]
    cases k with
    | zero =>
      have hj : j = d.proxies.length := by omega
      subst hj
      exact ⟨.exit 6, _, .of fun K => by simp [l_ref07_Right_1, hm, hF.div, hs.q.len]; rfl, .inr ⟨by simp, H, W, by simp, hF, by simp [hd], .inr ⟨rfl, by simp, range_all_of hx⟩⟩⟩
    | succ k =>
      have hj : j < d.proxies.length := by omega
      have w1 : IntKind.wrap .i64 ((j : Int) + 1) = j + 1 := by have := hb.q; rw [w64] <;> omega
      have hw : IntKind.wrap .i64 (d.n - 1) = d.n - 1 := by rw [w64] <;> omega
      have hlt := hF.lt
      have hA : ∀ b, (H ++ [b])[m.h.length]? = some (.cells (rs (divC d a0 a1 n0 n1 p q)) ty_ref07_Division 0) := fun b => by rw [List.getElem?_append_left hlt]; exact hF.div
      obtain ⟨M, hM⟩ : ∃ M : Mem, M = { h := H ++ [.cells [i64 d.proxies[j].1, i64 d.proxies[j].2] ty_ref07_Proxy 0], wr := H.length :: W } := ⟨_, rfl⟩
      have pI : proxI d.n d.proxies j = (!pairBad d.n d.proxies[j] && (List.range d.proxies.length).all fun k => !proxC d.proxies j k) := by unfold proxI; rw [getD_get hj]
      have bad : proxI d.n d.proxies j = false → proxOk d.n d.proxies = false := fun h => range_all_not hj h
      obtain ⟨c1, k1⟩ := In_spec d.proxies[j].1 0 (d.n - 1) M
      obtain ⟨c2, k2⟩ := In_spec d.proxies[j].2 0 (d.n - 1) M
      rw [show (decide (0 ≤ d.proxies[j].1) && decide (d.proxies[j].1 ≤ d.n - 1)) = memB d.n d.proxies[j].1 from rfl] at k1
      rw [show (decide (0 ≤ d.proxies[j].2) && decide (d.proxies[j].2 ≤ d.n - 1)) = memB d.n d.proxies[j].2 from rfl] at k2
      rw [hM] at k1 k2
      cases m1 : memB d.n d.proxies[j].1 with
      | false =>
        rw [m1] at k1
        refine ⟨.ret, _, .ofN ⟨c1, fun n hn => by simp [l_ref07_Right_1, hm, hF.div, hs.q.len, hs.q.at hj, load_prs hj, hj, hA, hw, k1 n (by omega), hj]; rfl⟩, .inr ⟨by simp, _, _, rfl, hF.push _, by simp [hd], .inl ⟨rfl, by simp, bad (by rw [pI]; simp [pairBad, m1])⟩⟩⟩
      | true =>
        rw [m1] at k1
        cases m2 : memB d.n d.proxies[j].2 with
        | false =>
          rw [m2] at k2
          refine ⟨.ret, _, .ofN ⟨max c1 c2, fun n hn => by simp [l_ref07_Right_1, hm, hF.div, hs.q.len, hs.q.at hj, load_prs hj, hj, hA, hw, k1 n (by omega), k2 n (by omega)]; rfl⟩, .inr ⟨by simp, _, _, rfl, hF.push _, by simp [hd], .inl ⟨rfl, by simp, bad (by rw [pI]; simp [pairBad, m2])⟩⟩⟩
        | true =>
          rw [m2] at k2
          cases e3 : (d.proxies[j].1 == d.proxies[j].2) with
          | true =>
            refine ⟨.ret, _, .ofN ⟨max c1 c2, fun n hn => by simp [l_ref07_Right_1, hm, hF.div, hs.q.len, hs.q.at hj, load_prs hj, hj, hA, hw, k1 n (by omega), k2 n (by omega), e3]; rfl⟩, .inr ⟨by simp, _, _, rfl, hF.push _, by simp [hd], .inl ⟨rfl, by simp, bad (by rw [pI]; simp [pairBad, e3])⟩⟩⟩
          | false =>
            obtain ⟨o, s1, g1, g2, g4, g5⟩ := Right_prox_inner hs hb m (i := j) (b9 := H.length) hj _ _ (hF.push (.cells [i64 d.proxies[j].1, i64 d.proxies[j].2] ty_ref07_Proxy 0)) (by simp)
              { env := [(10, i64 0), (1, .own m.h.length 0 0), (8, i64 j), (9, .own H.length 0 0), (179, bo false)], m := { h := H ++ [.cells [i64 d.proxies[j].1, i64 d.proxies[j].2] ty_ref07_Proxy 0], wr := H.length :: W }, defs := s.defs, round := s.round, rcv := s.rcv, recd := s.recd } (by simp) rfl hd
            obtain ⟨c3, k3⟩ := g1.get
            have hpb : pairBad d.n d.proxies[j] = false := by simp [pairBad, m1, m2, e3]
            rcases g5 with ⟨rfl, g5, g6⟩ | ⟨rfl, g5, g7, g6⟩
            · refine ⟨.ret, _, .ofN ⟨max (max c1 c2) c3, fun n hn => by simp [l_ref07_Right_1, hm, hF.div, hs.q.len, hs.q.at hj, load_prs hj, hj, hA, hw, k1 n (by omega), k2 n (by omega), e3, k3 n (by omega)] <;> rfl⟩, .inr ⟨by simp, _, _, g2, hF.push _, g4, .inl ⟨rfl, g5, bad ?_⟩⟩⟩
              rw [pI, hpb, g6]; rfl
            · refine ⟨.norm, { s1 with env := [(1, .own m.h.length 0 0), (8, i64 (j + 1))] }, .ofN ⟨max (max c1 c2) c3, fun n hn => by simp [l_ref07_Right_1, hm, hF.div, hs.q.len, hs.q.at hj, load_prs hj, hj, hA, hw, k1 n (by omega), k2 n (by omega), e3, k3 n (by omega), g5, g7, w1]⟩, .inl ⟨rfl, k, by omega, j + 1, _, _, by omega, by simp, g2, hF.push _, by simp [g4], fun x hxj => ?_⟩⟩
              by_cases e : x = j
              · subst e; rw [pI, hpb, g6]; rfl
              · exact hx x (by omega))
  obtain ⟨o, s', h1, h2, H', W', h3⟩ := key d.proxies.length s ⟨0, H, W, by omega, he, hm, hF, hd, by simp⟩
  exact ⟨o, s', H', W', h1, h3⟩
end
end Go.AM.T
/- What the functions compute (own work). -/
namespace Go.AM.T
open Go Go.AM
attribute [local simp] so_mov so_pick so_alloc so_box so_build so_slit so_load so_store so_nilc so_bin so_beq so_eqs so_eqn so_eqnl so_not so_conv so_s2b so_mkfn so_slcA so_padd so_fld so_idxA so_idxV so_idxT so_look so_mupd so_mkmap so_mksl so_ext so_app so_lenT so_lenM so_min so_max so_cpy so_clr so_mkif so_tass so_lenS so_idxS so_slc
attribute [local simp] dn_skip dn_label dn_ret dn_exit dn_scope dn_keep dn_reg dn_draw0 noSlots denE denEI stepE  sd_mov sd_pick sd_build sd_load sd_store sd_nilc sd_bin sd_beq sd_eqs sd_eqn sd_eqnl sd_not sd_conv sd_s2b sd_mkfn sd_slc sd_slcA sd_padd sd_fld sd_idxS sd_idxA sd_idxV sd_idxT sd_look sd_mupd sd_ext sd_app sd_lenS sd_lenT sd_lenM sd_min sd_max sd_mkif sd_tass sd_call sd_slit dn_seq dn_cond dn_block dn_loop kn_call denIs denI denOp wants ev eget putD binL enumFrom AV.bool? AV.int? ekeep evs evp runV fin runDefs resAll resOf tupOf unit AV.cells okV ok1 Value.oneCell' fill setN rcells rs_nil rs_cons load_own load_cons mkAgg_rs storeN jmpOut
attribute [local simp] dvL dv1t dvAt mkAgg2 dv0 dv1 dv2 dv3 dv4 dv5 dv6 dv7 dv8 dv9 dv10 dvA dvN dvAll C_fz fzr
def inB (n lo hi : Int) : Bool := decide (lo ≤ n) && decide (n ≤ hi)
def headB (d : Div) : Bool := inB d.n 1 40 && decide (d.pairs.length ≤ 10) && decide (d.proxies.length ≤ 10) && decide (d.rule ≤ 2) && inB d.need 0 40 && inB d.quorum 0 40 && (d.tie == 1 || d.tie == 2)
def listB (n : Int) (l : List Int) : Bool := l.all (memB n) && risingB l
def listsB (d : Div) : Bool := listB d.n d.a0 && listB d.n d.n0 && (listB d.n d.a1 && listB d.n d.n1)
def rightB (d : Div) : Bool := headB d && listsB d && pairsOk' d.n [] d.pairs && proxOk d.n d.proxies

section
variable {d : Div} {a0 a1 n0 n1 p q : RV}
theorem Right_head (hs : DivS d a0 a1 n0 n1 p q) (m : Mem) {H : List Blk} (hc : H[m.h.length]? = some (.cells (rs (divC d a0 a1 n0 n1 p q)) ty_ref07_Division 0)) :
    ∃ c s', (∀ n, c ≤ n → denIs (Kn C n) { env := [(1, .own m.h.length 0 0)], m := { h := H } } r_ref07_Right_35 = some (.norm, s')) ∧ eget s'.env 53 = bo (!headB d) ∧ eget s'.env 1 = .own m.h.length 0 0 ∧ s'.m = { h := H } ∧ s'.defs = [] := by
  obtain ⟨c1, k1⟩ := In_spec d.n 1 40 { h := H }
  obtain ⟨c2, k2⟩ := In_spec d.need 0 40 { h := H }
  obtain ⟨c3, k3⟩ := In_spec d.quorum 0 40 { h := H }
  rw [show (decide (1 ≤ d.n) && decide (d.n ≤ 40)) = inB d.n 1 40 from rfl] at k1
  rw [show (decide (0 ≤ d.need) && decide (d.need ≤ 40)) = inB d.need 0 40 from rfl] at k2
  rw [show (decide (0 ≤ d.quorum) && decide (d.quorum ≤ 40)) = inB d.quorum 0 40 from rfl] at k3
  cases e1 : inB d.n 1 40 with
  | false =>
    rw [e1] at k1
    exact ⟨c1, _, fun n hn => by simp [hc, k1 n hn]; rfl, by simp [headB, e1], by simp, by simp, by simp⟩
  | true =>
  rw [e1] at k1
  by_cases e2 : d.pairs.length ≤ 10
  case neg =>
    have e2' : (10 < (d.pairs.length : Int)) = True := eq_true (by omega)
    exact ⟨c1, _, fun n hn => by simp [hc, k1 n hn, hs.p.len, e2']; rfl, by simp [headB, e2], by simp, by simp, by simp⟩
  have e2' : (10 < (d.pairs.length : Int)) = False := eq_false (by omega)
  by_cases e3 : d.proxies.length ≤ 10
  case neg =>
    have e3' : (10 < (d.proxies.length : Int)) = True := eq_true (by omega)
    exact ⟨c1, _, fun n hn => by simp [hc, k1 n hn, hs.p.len, hs.q.len, e2', e3']; rfl, by simp [headB, e3], by simp, by simp, by simp⟩
  have e3' : (10 < (d.proxies.length : Int)) = False := eq_false (by omega)
  by_cases e4 : d.rule ≤ 2
  case neg =>
    have e4' : (2 < d.rule) = True := eq_true (by omega)
    exact ⟨c1, _, fun n hn => by simp [hc, k1 n hn, hs.p.len, hs.q.len, e2', e3', e4']; rfl, by simp [headB, e4], by simp, by simp, by simp⟩
  have e4' : (2 < d.rule) = False := eq_false (by omega)
  cases e5 : inB d.need 0 40 with
  | false =>
    rw [e5] at k2
    exact ⟨max c1 c2, _, fun n hn => by simp [hc, k1 n (by omega), hs.p.len, hs.q.len, e2', e3', e4', k2 n (by omega)]; rfl, by simp [headB, e5], by simp, by simp, by simp⟩
  | true =>
  rw [e5] at k2
  cases e6 : inB d.quorum 0 40 with
  | false =>
    rw [e6] at k3
    exact ⟨max (max c1 c2) c3, _, fun n hn => by simp [hc, k1 n (by omega), hs.p.len, hs.q.len, e2', e3', e4', k2 n (by omega), k3 n (by omega)]; rfl, by simp [headB, e6], by simp, by simp, by simp⟩
  | true =>
  rw [e6] at k3
  cases e7 : (d.tie == 1) with
  | true =>
    have e7' : (d.tie != 1) = false := by simp [bne, e7]
    exact ⟨max (max c1 c2) c3, _, fun n hn => by simp [hc, k1 n (by omega), hs.p.len, hs.q.len, e2', e3', e4', k2 n (by omega), k3 n (by omega), e7']; rfl, by simp [headB, e1, e2, e3, e4, e5, e6, e7], by simp, by simp, by simp⟩
  | false =>
    have e7' : (d.tie != 1) = true := by simp [bne, e7]
    cases e8 : (d.tie == 2) with
    | true =>
      have e8' : (d.tie != 2) = false := by simp [bne, e8]
      exact ⟨max (max c1 c2) c3, _, fun n hn => by simp [hc, k1 n (by omega), hs.p.len, hs.q.len, e2', e3', e4', k2 n (by omega), k3 n (by omega), e7', e8']; rfl, by simp [headB, e1, e2, e3, e4, e5, e6, e7, e8], by simp, by simp, by simp⟩
    | false =>
      have e8' : (d.tie != 2) = true := by simp [bne, e8]
      exact ⟨max (max c1 c2) c3, _, fun n hn => by simp [hc, k1 n (by omega), hs.p.len, hs.q.len, e2', e3', e4', k2 n (by omega), k3 n (by omega), e7', e8']; rfl, by simp [headB, e1, e2, e3, e4, e5, e6, e7, e8], by simp, by simp, by simp⟩

/-- One round over the lists. -/
theorem Right_lists_round (hs : DivS d a0 a1 n0 n1 p q) (hn : 1 ≤ d.n) (hn' : d.n ≤ 40) (m : Mem) {H : List Blk} (hc : H[m.h.length]? = some (.cells (rs (divC d a0 a1 n0 n1 p q)) ty_ref07_Division 0)) {i : Nat} (hi : i < 2) {a n : List Int} {va vn : RV}
    (ha : SlI a va) (hnn : SlI n vn) (ba : a.length < 2 ^ 63) (bn : n.length < 2 ^ 63) (g1 : (rs (divC d a0 a1 n0 n1 p q))[1 + i]? = some (.r va)) (g2 : (rs (divC d a0 a1 n0 n1 p q))[3 + i]? = some (.r vn)) (s : St) (hm : s.m = { h := H }) (hd : s.defs = []) :
    ∃ o s', Den C l_ref07_Right_4 { s with env := [(1, .own m.h.length 0 0), (3, i64 i)] } o s' ∧ s'.m = { h := H } ∧ s'.defs = [] ∧
      ((o = .norm ∧ (listB d.n a && listB d.n n) = true ∧ ekeep [1, 3] s'.env = [(1, .own m.h.length 0 0), (3, i64 (i + 1 : Nat))]) ∨ (o = .ret ∧ (listB d.n a && listB d.n n) = false ∧ eget s'.env 2 = bo false)) := by
  have w1 : IntKind.wrap .i64 ((i : Int) + 1) = i + 1 := by rw [w64] <;> omega
  have t1 : ((i : Int) < 2) = True := eq_true (by omega)
  have r1 : List.take 1 (List.drop (1 + i) (rs (divC d a0 a1 n0 n1 p q))) = [.r va] := by
    rw [List.take_one, List.head?_drop, g1]; rfl
  have r3 : List.take 1 (List.drop (3 + i) (rs (divC d a0 a1 n0 n1 p q))) = [.r vn] := by
    rw [List.take_one, List.head?_drop, g2]; rfl
  have l1 : (1 + i + 1 ≤ 11) = True := eq_true (by omega)
  have l3 : (3 + i + 1 ≤ 11) = True := eq_true (by omega)
  obtain ⟨c1, k1⟩ := list_spec (a0 := a0) (a1 := a1) (n0 := n0) (n1 := n1) (p := p) (q := q) hn hn' ha ba { h := H }
  obtain ⟨c2, k2⟩ := list_spec (a0 := a0) (a1 := a1) (n0 := n0) (n1 := n1) (p := p) (q := q) hn hn' hnn bn { h := H }
  rw [show (a.all (memB d.n) && risingB a) = listB d.n a from rfl] at k1
  rw [show (n.all (memB d.n) && risingB n) = listB d.n n from rfl] at k2
  cases e1 : listB d.n a with
  | false =>
    rw [e1] at k1
    exact ⟨.ret, _, .ofN ⟨c1, fun n hn => by simp [l_ref07_Right_4, hm, hc, t1, r1, r3, l1, l3, k1 n hn]; rfl⟩, by simp, by simp [hd], .inr ⟨rfl, by simp, by simp⟩⟩
  | true =>
    rw [e1] at k1
    cases e2 : listB d.n n with
    | false =>
      rw [e2] at k2
      exact ⟨.ret, _, .ofN ⟨max c1 c2, fun n hn => by simp [l_ref07_Right_4, hm, hc, t1, r1, r3, l1, l3, k1 n (by omega), k2 n (by omega)]; rfl⟩, by simp, by simp [hd], .inr ⟨rfl, by simp, by simp⟩⟩
    | true =>
      rw [e2] at k2
      exact ⟨.norm, _, .ofN ⟨max c1 c2, fun n hn => by simp [l_ref07_Right_4, hm, hc, t1, r1, r3, l1, l3, k1 n (by omega), k2 n (by omega), w1]; rfl⟩, by simp, by simp [hd], .inl ⟨rfl, by simp, by simp⟩⟩

theorem Right_lists (hs : DivS d a0 a1 n0 n1 p q) (hb : Small d) (hn : 1 ≤ d.n) (hn' : d.n ≤ 40) (m : Mem) {H : List Blk} (hc : H[m.h.length]? = some (.cells (rs (divC d a0 a1 n0 n1 p q)) ty_ref07_Division 0)) (s : St) (he : ekeep [1, 3] s.env = [(1, .own m.h.length 0 0), (3, i64 0)])
    (hm : s.m = { h := H }) (hd : s.defs = []) :
    ∃ o s', Loop C [1, 3] l_ref07_Right_4 s o s' ∧ s'.m = { h := H } ∧ s'.defs = [] ∧ ((o = .ret ∧ eget s'.env 2 = bo false ∧ listsB d = false) ∨ (o = .exit 0 ∧ eget s'.env 1 = .own m.h.length 0 0 ∧ listsB d = true)) := by
  obtain ⟨o1, s1, d1, m1, f1, h1⟩ := Right_lists_round hs hn hn' m hc (i := 0) (by omega) hs.a0 hs.n0 hb.a0 hb.n0 rfl rfl s hm hd
  rw [show ([(1, .own m.h.length 0 0), (3, i64 (0 : Nat))] : Env) = ekeep [1, 3] s.env from by rw [he]; rfl] at d1
  rcases h1 with ⟨rfl, h1, e1⟩ | ⟨rfl, h1, e1⟩
  · obtain ⟨o2, s2, d2, m2, f2, h2⟩ := Right_lists_round hs hn hn' m hc (i := 1) (by omega) hs.a1 hs.n1 hb.a1 hb.n1 rfl rfl s1 m1 f1
    rw [← e1] at d2
    rcases h2 with ⟨rfl, h2, e2⟩ | ⟨rfl, h2, e2⟩
    · have d3 : Den C l_ref07_Right_4 { s2 with env := ekeep [1, 3] s2.env } (.exit 0) { s2 with env := [(1, .own m.h.length 0 0), (3, i64 2), (55, bo false)] } := by
        rw [e2]; exact .of fun K => by simp [l_ref07_Right_4]
      exact ⟨.exit 0, _, .more d1 (.more d2 (.stop d3 (by simp))), by simp [m2], by simp [f2], .inr ⟨rfl, by simp, by simp [listsB, h1, h2]⟩⟩
    · exact ⟨.ret, s2, .more d1 (.stop d2 (by simp)), m2, f2, .inl ⟨rfl, e2, by simp only [listsB, h1, h2]; rfl⟩⟩
  · exact ⟨.ret, s1, .stop d1 (by simp), m1, f1, .inl ⟨rfl, e1, by simp only [listsB, h1]; rfl⟩⟩

theorem Right_spec (hs : DivS d a0 a1 n0 n1 p q) (hb : Small d) (m : Mem) : CallR C (fnv fn_ref07_Right) [.r (.agg (divC d a0 a1 n0 n1 p q))] m (.ret (bo (rightB d)) m) := by
  obtain ⟨H, hH⟩ : ∃ H, H = m.h ++ [.cells (rs (divC d a0 a1 n0 n1 p q)) ty_ref07_Division 0] := ⟨_, rfl⟩
  have hc : H[m.h.length]? = some (.cells (rs (divC d a0 a1 n0 n1 p q)) ty_ref07_Division 0) := by simp [hH]
  have ht : H.take m.h.length = m.h := by simp [hH]
  obtain ⟨c0, s0, k0, v0, v1, v2, v3⟩ := Right_head hs m hc
  cases eh : headB d with
  | false =>
    rw [eh] at v0
    rw [show rightB d = false by simp [rightB, eh]]
    exact CallR.eval (m1 := { h := H }) rfl rfl prog_ref07_Right rfl ⟨c0, fun k hk => by simp [-r_ref07_Right_35, a_ref07_Right, ← hH, k0 k hk, v0, v1, v2, v3]⟩ ht (by simp)
  | true =>
    rw [eh] at v0
    have hn : 1 ≤ d.n ∧ d.n ≤ 40 := by
      simp only [headB, inB, Bool.and_eq_true, decide_eq_true_eq] at eh
      exact eh.1.1.1.1.1.1
    obtain ⟨o1, s1, g1, m1, f1, h1⟩ := Right_lists hs hb hn.1 hn.2 m hc { s0 with env := [(3, i64 0), (1, .own m.h.length 0 0), (53, bo false)], m := { h := H }, defs := [] } (by simp) rfl rfl
    obtain ⟨c1, k1⟩ := g1.get
    rcases h1 with ⟨rfl, w1, e1⟩ | ⟨rfl, w1, e1⟩
    · rw [show rightB d = false by simp [rightB, e1]]
      exact CallR.eval (m1 := { h := H }) rfl rfl prog_ref07_Right rfl ⟨max c0 c1, fun k hk => by simp [-r_ref07_Right_35, a_ref07_Right, ← hH, k0 k (by omega), v0, v1, v2, v3, k1 k (by omega), w1, m1, f1]⟩ ht (by simp)
    · obtain ⟨o2, s2, H2, W2, g2, m2, hF2, f2, h2⟩ := Right_pairs hs hb hn.1 hn.2 m H [] ⟨hc, ht, by simp⟩ { s1 with env := (4, i64 0) :: s1.env, m := { h := H }, defs := [] } (by simp [w1]) rfl rfl
      obtain ⟨c2, k2⟩ := g2.get
      rcases h2 with ⟨rfl, w2, e2⟩ | ⟨rfl, w2, e2⟩
      · rw [show rightB d = false by simp [rightB, e2]]
        exact CallR.eval (m1 := { h := H2, wr := W2 }) rfl rfl prog_ref07_Right rfl ⟨max (max c0 c1) c2, fun k hk => by simp [-r_ref07_Right_35, a_ref07_Right, ← hH, k0 k (by omega), v0, v1, v2, v3, k1 k (by omega), w1, m1, f1, k2 k (by omega), w2, m2, f2]⟩ hF2.tk hF2.wr
      · obtain ⟨o3, s3, H3, W3, g3, m3, hF3, f3, h3⟩ := Right_prox hs hb hn.1 hn.2 m H2 W2 hF2 { s2 with env := (8, i64 0) :: s2.env, m := { h := H2, wr := W2 }, defs := [] } (by simp [w2]) rfl rfl
        obtain ⟨c3, k3⟩ := g3.get
        rcases h3 with ⟨rfl, w3, e3⟩ | ⟨rfl, w3, e3⟩
        · rw [show rightB d = false by simp [rightB, e3]]
          exact CallR.eval (m1 := { h := H3, wr := W3 }) rfl rfl prog_ref07_Right rfl ⟨max (max c0 c1) (max c2 c3), fun k hk => by simp [-r_ref07_Right_35, a_ref07_Right, ← hH, k0 k (by omega), v0, v1, v2, v3, k1 k (by omega), w1, m1, f1, k2 k (by omega), w2, m2, f2, k3 k (by omega), w3, m3, f3]⟩ hF3.tk hF3.wr
        · rw [show rightB d = true by simp [rightB, eh, e1, e2, e3]]
          exact CallR.eval (m1 := { h := H3, wr := W3 }) rfl rfl prog_ref07_Right rfl ⟨max (max c0 c1) (max c2 c3), fun k hk => by simp [-r_ref07_Right_35, a_ref07_Right, ← hH, k0 k (by omega), v0, v1, v2, v3, k1 k (by omega), w1, m1, f1, k2 k (by omega), w2, m2, f2, k3 k (by omega), w3, m3, f3]⟩ hF3.tk hF3.wr
end
end Go.AM.T
/- What the functions compute (own work). -/
namespace Go.AM.T
open Go Go.AM
attribute [local simp] so_mov so_pick so_alloc so_box so_build so_slit so_load so_store so_nilc so_bin so_beq so_eqs so_eqn so_eqnl so_not so_conv so_s2b so_mkfn so_slcA so_padd so_fld so_idxA so_idxV so_idxT so_look so_mupd so_mkmap so_mksl so_ext so_app so_lenT so_lenM so_min so_max so_cpy so_clr so_mkif so_tass so_lenS so_idxS so_slc
attribute [local simp] dn_skip dn_label dn_ret dn_exit dn_scope dn_keep dn_reg dn_draw0 noSlots denE denEI stepE  sd_mov sd_pick sd_build sd_load sd_store sd_nilc sd_bin sd_beq sd_eqs sd_eqn sd_eqnl sd_not sd_conv sd_s2b sd_mkfn sd_slc sd_slcA sd_padd sd_fld sd_idxS sd_idxA sd_idxV sd_idxT sd_look sd_mupd sd_ext sd_app sd_lenS sd_lenT sd_lenM sd_min sd_max sd_mkif sd_tass sd_call sd_slit dn_seq dn_cond dn_block dn_loop kn_call denIs denI denOp wants ev eget putD binL enumFrom AV.bool? AV.int? ekeep evs evp runV fin runDefs resAll resOf tupOf unit AV.cells okV ok1 Value.oneCell' fill setN rcells rs_nil rs_cons load_own load_cons mkAgg_rs storeN jmpOut
attribute [local simp] dvL dv1t dvAt mkAgg2 dv0 dv1 dv2 dv3 dv4 dv5 dv6 dv7 dv8 dv9 dv10 dvA dvN dvAll C_fz fzr

/-- A slice's elements, as a heap has them. -/
structure Els (lv : AV) (n sz k : Nat) (ag : Bool) (h : List Blk) (e : Nat → AV) : Prop where
  len : lenOf lv = some n
  el : ∀ i, i < n → ∃ a, atOf sz lv i = some a ∧ ∀ wr, loadV { h := h, wr := wr } a k ag = some (e i)

def idxOf (n : Nat) (p : Nat → Bool) : Int := match (List.range n).find? p with | some i => (i : Int) | none => -1
theorem idxOf_any (n : Nat) (p : Nat → Bool) : (0 ≤ idxOf n p ∧ (List.range n).any p = true) ∨ (idxOf n p < 0 ∧ (List.range n).any p = false) := by
  unfold idxOf
  cases h : (List.range n).find? p with
  | none =>
    right
    rw [List.find?_eq_none] at h
    refine ⟨by show (-1 : Int) < 0; decide, ?_⟩
    rw [List.any_eq_false]; exact fun x hx => by simpa using h x hx
  | some i =>
    left
    refine ⟨by show (0 : Int) ≤ (i : Int); omega, ?_⟩
    rw [List.any_eq_true]
    exact ⟨i, List.mem_of_find?_eq_some h, List.find?_some h⟩
theorem Els.ofInts {l : List Int} {v : RV} (hl : SlI l v) (h : List Blk) : Els (.r v) l.length 1 1 false h (fun i => i64 (l.getD i 0)) :=
  ⟨hl.len, fun i hi => ⟨_, hl.at hi, fun wr => by rw [Nat.mul_one, load_ints hi, getD_get hi]⟩⟩
theorem Els.ofPrs {l : List (Int × Int)} {v : RV} (hl : SlP l v) (h : List Blk) : Els (.r v) l.length 2 2 true h (fun i => .r (.agg [.lit (.int .i64 (l.getD i (0, 0)).1), .lit (.int .i64 (l.getD i (0, 0)).2)])) :=
  ⟨hl.len, fun i hi => ⟨_, hl.at hi, fun wr => by rw [load_prs hi, getD_get hi]⟩⟩

theorem IF_int_spec {lv F : AV} {n : Nat} {m : Mem} {e : Nat → AV} {p : Nat → Bool} (hn : n < 2 ^ 63) (hE : Els lv n 1 1 false m.h e) (hp : ∀ i, i < n → CallR C F [e i] { h := m.h } (.ret (bo (p i)) { h := m.h })) :
    CallR C (fnv fn_slices_IndexFunc_Sint_int) [lv, F] m (.ret (i64 (idxOf n p)) m) := by
  have key := Loop.run (C := C) (c := l_slices_IndexFunc_Sint_int_0) (live := [0, 1, 7, 8]) (fun k s => ∃ i : Nat, i + k = n ∧ At1 [0, 1, 7, 8] [(0, lv), (1, F), (7, i64 n), (8, i64 i)] { h := m.h } s ∧ ∀ j, j < i → p j = false)
    (fun o s => s.m = { h := m.h } ∧ s.defs = [] ∧ ((o = .ret ∧ ∃ i : Nat, eget s.env 4 = i64 i ∧ (List.range n).find? p = some i) ∨ (o = .exit 0 ∧ (List.range n).find? p = none))) (by
    rintro k s ⟨i, hik, ⟨he, hm, hd, hr⟩, hx⟩
    rw [he]
    cases k with
    | zero =>
      have e1 : ((i : Int) < (n : Int)) = False := eq_false (by omega)
      exact ⟨.exit 0, _, .of fun K => by simp [l_slices_IndexFunc_Sint_int_0, e1]; rfl, .inr ⟨by simp, by simp [hm], by simp [hd], .inr ⟨rfl, find_none_of fun j hj => hx j (by omega)⟩⟩⟩
    | succ k =>
      have e1 : ((i : Int) < (n : Int)) = True := eq_true (by omega)
      have w1 : IntKind.wrap .i64 ((i : Int) + 1) = i + 1 := by rw [w64] <;> omega
      obtain ⟨a, ha, hl⟩ := hE.el i (by omega)
      have hl := hl []
      obtain ⟨c1, k1⟩ := hp i (by omega)
      cases hq : p i with
      | true =>
        rw [hq] at k1
        exact ⟨.ret, _, .ofN ⟨c1, fun q hq => by simp [l_slices_IndexFunc_Sint_int_0, e1, ha, hm, hl, k1 q hq]; rfl⟩, .inr ⟨by simp, by simp, by simp [hd], .inl ⟨rfl, i, by simp, find_some_of (by omega) hx hq⟩⟩⟩
      | false =>
        rw [hq] at k1
        refine ⟨.norm, _, .ofN ⟨c1, fun q hq => by simp [l_slices_IndexFunc_Sint_int_0, e1, ha, hm, hl, k1 q hq, w1]; rfl⟩, .inl ⟨rfl, k, by omega, i + 1, by omega, ⟨by simp, by simp, by simp [hd], by simp [hr]⟩, fun j hj => ?_⟩⟩
        by_cases e : j = i
        · subst e; exact hq
        · exact hx j (by omega))
  obtain ⟨o, s, h1, h2, h3, h4, h5⟩ := key n { env := [(0, lv), (1, F), (7, i64 n), (8, i64 0)], m := { h := m.h } } ⟨0, by simp, ⟨by simp, rfl, rfl, rfl⟩, by simp⟩
  obtain ⟨c0, h1⟩ := h1.get
  unfold idxOf
  rcases h5 with ⟨rfl, i, h5, h6⟩ | ⟨rfl, h6⟩ <;> rw [h6]
  · exact CallR.eval0 rfl rfl prog_slices_IndexFunc_Sint_int rfl ⟨c0, fun k hk => by simp [a_slices_IndexFunc_Sint_int, hE.len, h1 k hk, h4, h5, h3]⟩
  · exact CallR.eval0 rfl rfl prog_slices_IndexFunc_Sint_int rfl ⟨c0, fun k hk => by simp [a_slices_IndexFunc_Sint_int, hE.len, h1 k hk, h4, h3]⟩

theorem CF_int_spec {lv F : AV} {n : Nat} {m : Mem} {e : Nat → AV} {p : Nat → Bool} (hn : n < 2 ^ 63) (hE : Els lv n 1 1 false m.h e) (hp : ∀ i, i < n → CallR C F [e i] { h := m.h } (.ret (bo (p i)) { h := m.h })) :
    CallR C (fnv fn_slices_ContainsFunc_Sint_int) [lv, F] m (.ret (bo ((List.range n).any p)) m) := by
  obtain ⟨c1, k1⟩ := IF_int_spec (m := { h := m.h }) hn hE hp
  rcases idxOf_any n p with ⟨h1, h2⟩ | ⟨h1, h2⟩
  · rw [h2]
    have e1 : (0 ≤ idxOf n p) = True := eq_true h1
    exact CallR.eval0 rfl rfl prog_slices_ContainsFunc_Sint_int rfl ⟨c1, fun k hk => by simp [a_slices_ContainsFunc_Sint_int, k1 k hk, e1]⟩
  · rw [h2]
    have e1 : (0 ≤ idxOf n p) = False := eq_false (by omega)
    exact CallR.eval0 rfl rfl prog_slices_ContainsFunc_Sint_int rfl ⟨c1, fun k hk => by simp [a_slices_ContainsFunc_Sint_int, k1 k hk, e1]⟩

theorem all_int_1_spec {H : List Blk} {W : List Nat} {b : Nat} {R x : AV} {v : Bool} (hR : okV R = true) (hc : R.cells = [R]) (hb : H[b]? = some (.cells [R] ty_func_int_bool_2 0)) (hr : ∀ X, CallR C R [x] { h := H ++ X } (.ret (bo v) { h := H ++ X })) :
    CallR C (.fn fn_tally_all_int_1 [] [.own b 0 0]) [x] { h := H, wr := W } (.ret (bo (!v)) { h := H, wr := W }) := by
  have hbl : b < H.length := getElem?_lt hb
  obtain ⟨c1, k1⟩ := hr []
  exact CallR.evalA (m1 := { h := H ++ [] }) rfl rfl prog_tally_all_int_1 rfl ⟨c1, fun k hk => by
    have := k1 k hk
    try simp at this
    simp [a_tally_all_int_1, hb, this]⟩ (by simp) (by simp)

theorem all_int_spec {lv R : AV} {n : Nat} {m : Mem} {e : Nat → AV} {p : Nat → Bool} (hn : n < 2 ^ 63) (hR : okV R = true) (hc : R.cells = [R]) (hE : ∀ X, Els lv n 1 1 false (m.h ++ X) e) (hr : ∀ i, i < n → ∀ X, CallR C R [e i] { h := m.h ++ X } (.ret (bo (p i)) { h := m.h ++ X })) :
    CallR C (fnv fn_tally_all_int) [lv, R] m (.ret (bo ((List.range n).all p)) m) := by
  obtain ⟨H, hH⟩ : ∃ H, H = m.h ++ [.cells [R] ty_func_int_bool_2 0] := ⟨_, rfl⟩
  have hb : H[m.h.length]? = some (.cells [R] ty_func_int_bool_2 0) := by simp [hH]
  have ht : H.take m.h.length = m.h := by simp [hH]
  have h1 : ∀ i, i < n → CallR C (.fn fn_tally_all_int_1 [] [.own m.h.length 0 0]) [e i] { h := H } (.ret (bo (!p i)) { h := H }) := fun i hi =>
    all_int_1_spec hR hc hb (fun X => by have := hr i hi ([.cells [R] ty_func_int_bool_2 0] ++ X); simpa [hH] using this)
  obtain ⟨c1, k1⟩ := CF_int_spec (m := { h := H }) hn (by have := hE [.cells [R] ty_func_int_bool_2 0]; rwa [← hH] at this) h1
  have he : (List.range n).any (fun i => !p i) = !(List.range n).all p := by simp [List.not_all_eq_any_not]
  rw [he] at k1
  exact CallR.eval (m1 := { h := H }) rfl rfl prog_tally_all_int rfl ⟨c1, fun k hk => by simp [-okV, -AV.cells, a_tally_all_int, hR, hc, allR, AV.toR, ← hH, k1 k hk]⟩ ht (by simp)

theorem IF_sl_spec {lv F : AV} {n : Nat} {m : Mem} {e : Nat → AV} {p : Nat → Bool} (hn : n < 2 ^ 63) (hE : Els lv n 1 1 false m.h e) (hp : ∀ i, i < n → CallR C F [e i] { h := m.h } (.ret (bo (p i)) { h := m.h })) :
    CallR C (fnv fn_slices_IndexFunc_SSint_Sint) [lv, F] m (.ret (i64 (idxOf n p)) m) := by
  have key := Loop.run (C := C) (c := l_slices_IndexFunc_SSint_Sint_0) (live := [0, 1, 7, 8]) (fun k s => ∃ i : Nat, i + k = n ∧ At1 [0, 1, 7, 8] [(0, lv), (1, F), (7, i64 n), (8, i64 i)] { h := m.h } s ∧ ∀ j, j < i → p j = false)
    (fun o s => s.m = { h := m.h } ∧ s.defs = [] ∧ ((o = .ret ∧ ∃ i : Nat, eget s.env 4 = i64 i ∧ (List.range n).find? p = some i) ∨ (o = .exit 0 ∧ (List.range n).find? p = none))) (by
    rintro k s ⟨i, hik, ⟨he, hm, hd, hr⟩, hx⟩
    rw [he]
    cases k with
    | zero =>
      have e1 : ((i : Int) < (n : Int)) = False := eq_false (by omega)
      exact ⟨.exit 0, _, .of fun K => by simp [l_slices_IndexFunc_SSint_Sint_0, e1]; rfl, .inr ⟨by simp, by simp [hm], by simp [hd], .inr ⟨rfl, find_none_of fun j hj => hx j (by omega)⟩⟩⟩
    | succ k =>
      have e1 : ((i : Int) < (n : Int)) = True := eq_true (by omega)
      have w1 : IntKind.wrap .i64 ((i : Int) + 1) = i + 1 := by rw [w64] <;> omega
      obtain ⟨a, ha, hl⟩ := hE.el i (by omega)
      have hl := hl []
      obtain ⟨c1, k1⟩ := hp i (by omega)
      cases hq : p i with
      | true =>
        rw [hq] at k1
        exact ⟨.ret, _, .ofN ⟨c1, fun q hq => by simp [l_slices_IndexFunc_SSint_Sint_0, e1, ha, hm, hl, k1 q hq]; rfl⟩, .inr ⟨by simp, by simp, by simp [hd], .inl ⟨rfl, i, by simp, find_some_of (by omega) hx hq⟩⟩⟩
      | false =>
        rw [hq] at k1
        refine ⟨.norm, _, .ofN ⟨c1, fun q hq => by simp [l_slices_IndexFunc_SSint_Sint_0, e1, ha, hm, hl, k1 q hq, w1]; rfl⟩, .inl ⟨rfl, k, by omega, i + 1, by omega, ⟨by simp, by simp, by simp [hd], by simp [hr]⟩, fun j hj => ?_⟩⟩
        by_cases e : j = i
        · subst e; exact hq
        · exact hx j (by omega))
  obtain ⟨o, s, h1, h2, h3, h4, h5⟩ := key n { env := [(0, lv), (1, F), (7, i64 n), (8, i64 0)], m := { h := m.h } } ⟨0, by simp, ⟨by simp, rfl, rfl, rfl⟩, by simp⟩
  obtain ⟨c0, h1⟩ := h1.get
  unfold idxOf
  rcases h5 with ⟨rfl, i, h5, h6⟩ | ⟨rfl, h6⟩ <;> rw [h6]
  · exact CallR.eval0 rfl rfl prog_slices_IndexFunc_SSint_Sint rfl ⟨c0, fun k hk => by simp [a_slices_IndexFunc_SSint_Sint, hE.len, h1 k hk, h4, h5, h3]⟩
  · exact CallR.eval0 rfl rfl prog_slices_IndexFunc_SSint_Sint rfl ⟨c0, fun k hk => by simp [a_slices_IndexFunc_SSint_Sint, hE.len, h1 k hk, h4, h3]⟩

theorem CF_sl_spec {lv F : AV} {n : Nat} {m : Mem} {e : Nat → AV} {p : Nat → Bool} (hn : n < 2 ^ 63) (hE : Els lv n 1 1 false m.h e) (hp : ∀ i, i < n → CallR C F [e i] { h := m.h } (.ret (bo (p i)) { h := m.h })) :
    CallR C (fnv fn_slices_ContainsFunc_SSint_Sint) [lv, F] m (.ret (bo ((List.range n).any p)) m) := by
  obtain ⟨c1, k1⟩ := IF_sl_spec (m := { h := m.h }) hn hE hp
  rcases idxOf_any n p with ⟨h1, h2⟩ | ⟨h1, h2⟩
  · rw [h2]
    have e1 : (0 ≤ idxOf n p) = True := eq_true h1
    exact CallR.eval0 rfl rfl prog_slices_ContainsFunc_SSint_Sint rfl ⟨c1, fun k hk => by simp [a_slices_ContainsFunc_SSint_Sint, k1 k hk, e1]⟩
  · rw [h2]
    have e1 : (0 ≤ idxOf n p) = False := eq_false (by omega)
    exact CallR.eval0 rfl rfl prog_slices_ContainsFunc_SSint_Sint rfl ⟨c1, fun k hk => by simp [a_slices_ContainsFunc_SSint_Sint, k1 k hk, e1]⟩

theorem all_sl_1_spec {H : List Blk} {W : List Nat} {b : Nat} {R x : AV} {v : Bool} (hR : okV R = true) (hc : R.cells = [R]) (hb : H[b]? = some (.cells [R] ty_func_Sint_bool 0)) (hr : ∀ X, CallR C R [x] { h := H ++ X } (.ret (bo v) { h := H ++ X })) :
    CallR C (.fn fn_tally_all_Sint_1 [] [.own b 0 0]) [x] { h := H, wr := W } (.ret (bo (!v)) { h := H, wr := W }) := by
  have hbl : b < H.length := getElem?_lt hb
  obtain ⟨c1, k1⟩ := hr []
  exact CallR.evalA (m1 := { h := H ++ [] }) rfl rfl prog_tally_all_Sint_1 rfl ⟨c1, fun k hk => by
    have := k1 k hk
    try simp at this
    simp [a_tally_all_Sint_1, hb, this]⟩ (by simp) (by simp)

theorem all_sl_spec {lv R : AV} {n : Nat} {m : Mem} {e : Nat → AV} {p : Nat → Bool} (hn : n < 2 ^ 63) (hR : okV R = true) (hc : R.cells = [R]) (hE : ∀ X, Els lv n 1 1 false (m.h ++ X) e) (hr : ∀ i, i < n → ∀ X, CallR C R [e i] { h := m.h ++ X } (.ret (bo (p i)) { h := m.h ++ X })) :
    CallR C (fnv fn_tally_all_Sint) [lv, R] m (.ret (bo ((List.range n).all p)) m) := by
  obtain ⟨H, hH⟩ : ∃ H, H = m.h ++ [.cells [R] ty_func_Sint_bool 0] := ⟨_, rfl⟩
  have hb : H[m.h.length]? = some (.cells [R] ty_func_Sint_bool 0) := by simp [hH]
  have ht : H.take m.h.length = m.h := by simp [hH]
  have h1 : ∀ i, i < n → CallR C (.fn fn_tally_all_Sint_1 [] [.own m.h.length 0 0]) [e i] { h := H } (.ret (bo (!p i)) { h := H }) := fun i hi =>
    all_sl_1_spec hR hc hb (fun X => by have := hr i hi ([.cells [R] ty_func_Sint_bool 0] ++ X); simpa [hH] using this)
  obtain ⟨c1, k1⟩ := CF_sl_spec (m := { h := H }) hn (by have := hE [.cells [R] ty_func_Sint_bool 0]; rwa [← hH] at this) h1
  have he : (List.range n).any (fun i => !p i) = !(List.range n).all p := by simp [List.not_all_eq_any_not]
  rw [he] at k1
  exact CallR.eval (m1 := { h := H }) rfl rfl prog_tally_all_Sint rfl ⟨c1, fun k hk => by simp [-okV, -AV.cells, a_tally_all_Sint, hR, hc, allR, AV.toR, ← hH, k1 k hk]⟩ ht (by simp)

theorem IF_prx_spec {lv F : AV} {n : Nat} {m : Mem} {e : Nat → AV} {p : Nat → Bool} (hn : n < 2 ^ 63) (hE : Els lv n 2 2 true m.h e) (hp : ∀ i, i < n → CallR C F [e i] { h := m.h } (.ret (bo (p i)) { h := m.h })) :
    CallR C (fnv fn_slices_IndexFunc_Stally_Proxy_tally_Proxy) [lv, F] m (.ret (i64 (idxOf n p)) m) := by
  have key := Loop.run (C := C) (c := l_slices_IndexFunc_Stally_Proxy_tally_Proxy_0) (live := [0, 1, 7, 8]) (fun k s => ∃ i : Nat, i + k = n ∧ At1 [0, 1, 7, 8] [(0, lv), (1, F), (7, i64 n), (8, i64 i)] { h := m.h } s ∧ ∀ j, j < i → p j = false)
    (fun o s => s.m = { h := m.h } ∧ s.defs = [] ∧ ((o = .ret ∧ ∃ i : Nat, eget s.env 4 = i64 i ∧ (List.range n).find? p = some i) ∨ (o = .exit 0 ∧ (List.range n).find? p = none))) (by
    rintro k s ⟨i, hik, ⟨he, hm, hd, hr⟩, hx⟩
    rw [he]
    cases k with
    | zero =>
      have e1 : ((i : Int) < (n : Int)) = False := eq_false (by omega)
      exact ⟨.exit 0, _, .of fun K => by simp [l_slices_IndexFunc_Stally_Proxy_tally_Proxy_0, e1]; rfl, .inr ⟨by simp, by simp [hm], by simp [hd], .inr ⟨rfl, find_none_of fun j hj => hx j (by omega)⟩⟩⟩
    | succ k =>
      have e1 : ((i : Int) < (n : Int)) = True := eq_true (by omega)
      have w1 : IntKind.wrap .i64 ((i : Int) + 1) = i + 1 := by rw [w64] <;> omega
      obtain ⟨a, ha, hl⟩ := hE.el i (by omega)
      have hl := hl []
      obtain ⟨c1, k1⟩ := hp i (by omega)
      cases hq : p i with
      | true =>
        rw [hq] at k1
        exact ⟨.ret, _, .ofN ⟨c1, fun q hq => by simp [l_slices_IndexFunc_Stally_Proxy_tally_Proxy_0, e1, ha, hm, hl, k1 q hq]; rfl⟩, .inr ⟨by simp, by simp, by simp [hd], .inl ⟨rfl, i, by simp, find_some_of (by omega) hx hq⟩⟩⟩
      | false =>
        rw [hq] at k1
        refine ⟨.norm, _, .ofN ⟨c1, fun q hq => by simp [l_slices_IndexFunc_Stally_Proxy_tally_Proxy_0, e1, ha, hm, hl, k1 q hq, w1]; rfl⟩, .inl ⟨rfl, k, by omega, i + 1, by omega, ⟨by simp, by simp, by simp [hd], by simp [hr]⟩, fun j hj => ?_⟩⟩
        by_cases e : j = i
        · subst e; exact hq
        · exact hx j (by omega))
  obtain ⟨o, s, h1, h2, h3, h4, h5⟩ := key n { env := [(0, lv), (1, F), (7, i64 n), (8, i64 0)], m := { h := m.h } } ⟨0, by simp, ⟨by simp, rfl, rfl, rfl⟩, by simp⟩
  obtain ⟨c0, h1⟩ := h1.get
  unfold idxOf
  rcases h5 with ⟨rfl, i, h5, h6⟩ | ⟨rfl, h6⟩ <;> rw [h6]
  · exact CallR.eval0 rfl rfl prog_slices_IndexFunc_Stally_Proxy_tally_Proxy rfl ⟨c0, fun k hk => by simp [a_slices_IndexFunc_Stally_Proxy_tally_Proxy, hE.len, h1 k hk, h4, h5, h3]⟩
  · exact CallR.eval0 rfl rfl prog_slices_IndexFunc_Stally_Proxy_tally_Proxy rfl ⟨c0, fun k hk => by simp [a_slices_IndexFunc_Stally_Proxy_tally_Proxy, hE.len, h1 k hk, h4, h3]⟩

theorem CF_prx_spec {lv F : AV} {n : Nat} {m : Mem} {e : Nat → AV} {p : Nat → Bool} (hn : n < 2 ^ 63) (hE : Els lv n 2 2 true m.h e) (hp : ∀ i, i < n → CallR C F [e i] { h := m.h } (.ret (bo (p i)) { h := m.h })) :
    CallR C (fnv fn_slices_ContainsFunc_Stally_Proxy_tally_Proxy) [lv, F] m (.ret (bo ((List.range n).any p)) m) := by
  obtain ⟨c1, k1⟩ := IF_prx_spec (m := { h := m.h }) hn hE hp
  rcases idxOf_any n p with ⟨h1, h2⟩ | ⟨h1, h2⟩
  · rw [h2]
    have e1 : (0 ≤ idxOf n p) = True := eq_true h1
    exact CallR.eval0 rfl rfl prog_slices_ContainsFunc_Stally_Proxy_tally_Proxy rfl ⟨c1, fun k hk => by simp [a_slices_ContainsFunc_Stally_Proxy_tally_Proxy, k1 k hk, e1]⟩
  · rw [h2]
    have e1 : (0 ≤ idxOf n p) = False := eq_false (by omega)
    exact CallR.eval0 rfl rfl prog_slices_ContainsFunc_Stally_Proxy_tally_Proxy rfl ⟨c1, fun k hk => by simp [a_slices_ContainsFunc_Stally_Proxy_tally_Proxy, k1 k hk, e1]⟩

theorem all_prx_1_spec {H : List Blk} {W : List Nat} {b : Nat} {R x : AV} {v : Bool} (hR : okV R = true) (hc : R.cells = [R]) (hb : H[b]? = some (.cells [R] ty_func_tally_Proxy_bool 0)) (hx : ∃ u v, x = .r (.agg [u, v])) (hr : ∀ X, CallR C R [x] { h := H ++ X } (.ret (bo v) { h := H ++ X })) :
    CallR C (.fn fn_tally_all_tally_Proxy_1 [] [.own b 0 0]) [x] { h := H, wr := W } (.ret (bo (!v)) { h := H, wr := W }) := by
  have hbl : b < H.length := getElem?_lt hb
  obtain ⟨u, w, rfl⟩ := hx
  have hA : ∀ b', (H ++ [b'])[b]? = some (.cells [R] ty_func_tally_Proxy_bool 0) := fun b' => by rw [List.getElem?_append_left hbl]; exact hb
  obtain ⟨c1, k1⟩ := hr [.cells [.r u, .r w] ty_tally_Proxy 0]
  exact CallR.evalA (m1 := { h := H ++ [.cells [.r u, .r w] ty_tally_Proxy 0] }) rfl rfl prog_tally_all_tally_Proxy_1 rfl ⟨c1, fun k hk => by
    have := k1 k hk
    try simp at this
    simp [a_tally_all_tally_Proxy_1, hb, this, hA]⟩ (by simp) (by simp)

theorem all_prx_spec {lv R : AV} {n : Nat} {m : Mem} {e : Nat → AV} {p : Nat → Bool} (hn : n < 2 ^ 63) (hR : okV R = true) (hc : R.cells = [R]) (hE : ∀ X, Els lv n 2 2 true (m.h ++ X) e) (hx : ∀ i, ∃ u v, e i = .r (.agg [u, v])) (hr : ∀ i, i < n → ∀ X, CallR C R [e i] { h := m.h ++ X } (.ret (bo (p i)) { h := m.h ++ X })) :
    CallR C (fnv fn_tally_all_tally_Proxy) [lv, R] m (.ret (bo ((List.range n).all p)) m) := by
  obtain ⟨H, hH⟩ : ∃ H, H = m.h ++ [.cells [R] ty_func_tally_Proxy_bool 0] := ⟨_, rfl⟩
  have hb : H[m.h.length]? = some (.cells [R] ty_func_tally_Proxy_bool 0) := by simp [hH]
  have ht : H.take m.h.length = m.h := by simp [hH]
  have h1 : ∀ i, i < n → CallR C (.fn fn_tally_all_tally_Proxy_1 [] [.own m.h.length 0 0]) [e i] { h := H } (.ret (bo (!p i)) { h := H }) := fun i hi =>
    all_prx_1_spec hR hc hb (hx i) (fun X => by have := hr i hi ([.cells [R] ty_func_tally_Proxy_bool 0] ++ X); simpa [hH] using this)
  obtain ⟨c1, k1⟩ := CF_prx_spec (m := { h := H }) hn (by have := hE [.cells [R] ty_func_tally_Proxy_bool 0]; rwa [← hH] at this) h1
  have he : (List.range n).any (fun i => !p i) = !(List.range n).all p := by simp [List.not_all_eq_any_not]
  rw [he] at k1
  exact CallR.eval (m1 := { h := H }) rfl rfl prog_tally_all_tally_Proxy rfl ⟨c1, fun k hk => by simp [-okV, -AV.cells, a_tally_all_tally_Proxy, hR, hc, allR, AV.toR, ← hH, k1 k hk]⟩ ht (by simp)

end Go.AM.T
/- What the functions compute (own work). -/
namespace Go.AM.T
open Go Go.AM
attribute [local simp] so_mov so_pick so_alloc so_box so_build so_slit so_load so_store so_nilc so_bin so_beq so_eqs so_eqn so_eqnl so_not so_conv so_s2b so_mkfn so_slcA so_padd so_fld so_idxA so_idxV so_idxT so_look so_mupd so_mkmap so_mksl so_ext so_app so_lenT so_lenM so_min so_max so_cpy so_clr so_mkif so_tass so_lenS so_idxS so_slc
attribute [local simp] dn_skip dn_label dn_ret dn_exit dn_scope dn_keep dn_reg dn_draw0 noSlots denE denEI stepE  sd_mov sd_pick sd_build sd_load sd_store sd_nilc sd_bin sd_beq sd_eqs sd_eqn sd_eqnl sd_not sd_conv sd_s2b sd_mkfn sd_slc sd_slcA sd_padd sd_fld sd_idxS sd_idxA sd_idxV sd_idxT sd_look sd_mupd sd_ext sd_app sd_lenS sd_lenT sd_lenM sd_min sd_max sd_mkif sd_tass sd_call sd_slit dn_seq dn_cond dn_block dn_loop kn_call denIs denI denOp wants ev eget putD binL enumFrom AV.bool? AV.int? ekeep evs evp runV fin runDefs resAll resOf tupOf unit AV.cells okV ok1 Value.oneCell' fill setN rcells rs_nil rs_cons load_own load_cons mkAgg_rs storeN jmpOut
attribute [local simp] dvL dv1t dvAt mkAgg2 dv0 dv1 dv2 dv3 dv4 dv5 dv6 dv7 dv8 dv9 dv10 dvA dvN dvAll C_fz fzr
theorem tRising_spec {l : List Int} {v : RV} (hl : SlI l v) (hb : l.length < 2 ^ 63) (m : Mem) : CallR C (fnv fn_tally_rising) [.r v] m (.ret (bo (risingB l)) m) := by
  have key := Loop.run (C := C) (c := l_tally_rising_0) (live := [0, 5, 6]) (fun k s => ∃ i : Nat, i + k = l.length ∧ At1 [0, 5, 6] [(0, .r v), (5, i64 l.length), (6, i64 i)] { h := m.h } s ∧ ∀ j, j + 1 < i → (h : j + 1 < l.length) → l[j] < l[j + 1])
    (fun o s => s.m = { h := m.h } ∧ s.defs = [] ∧ ((o = .ret ∧ eget s.env 2 = bo false ∧ risingB l = false) ∨ (o = .exit 0 ∧ risingB l = true))) (by
    rintro k s ⟨i, hik, ⟨he, hm, hd, hr⟩, hn⟩
    rw [he]
    cases k with
    | zero =>
      have e1 : ((i : Int) < (l.length : Int)) = False := eq_false (by omega)
      refine ⟨.exit 0, _, .of fun K => by simp [l_tally_rising_0, e1]; rfl, .inr ⟨by simp, by simp [hm], by simp [hd], .inr ⟨rfl, ?_⟩⟩⟩
      rw [risingB_iff]
      exact fun j hj => hn j (by omega) hj
    | succ k =>
      have hi : i < l.length := by omega
      have e1 : ((i : Int) < (l.length : Int)) = True := eq_true (by omega)
      have w1 : IntKind.wrap .i64 ((i : Int) + 1) = i + 1 := by rw [w64] <;> omega
      cases i with
      | zero =>
        refine ⟨.norm, _, .of fun K => by simp [l_tally_rising_0, hi, wk1]; rfl, .inl ⟨rfl, k, by omega, 1, by omega, ⟨by simp, by simp [hm], by simp [hd], by simp [hr]⟩, fun j hj h => by omega⟩⟩
      | succ i =>
        have hi' : i < l.length := by omega
        have e0 : (0 < ((i + 1 : Nat) : Int)) = True := eq_true (by omega)
        have e0' : (0 < ((i : Int) + 1)) = True := eq_true (by omega)
        have e2' : IntKind.wrap .i64 ((i : Int)) = i := by rw [w64] <;> omega
        have a1 : atOf 1 (.r v) ((i : Int) + 1) = _ := hl.at (i := i + 1) (sz := 1) hi
        have e1' : ((i : Int) + 1 < (l.length : Int)) = True := eq_true (by omega)
        have w1' : IntKind.wrap .i64 ((i : Int) + 1 + 1) = i + 1 + 1 := by rw [w64] <;> omega
        by_cases hx : l[i] < l[i + 1]
        · have e3 : (l[i + 1] ≤ l[i]) = False := eq_false (by omega)
          refine ⟨.norm, _, .of fun K => by simp [l_tally_rising_0, e1', e0', a1, hl.at hi', e2', load_ints hi, load_ints hi', e3, w1']; rfl, .inl ⟨rfl, k, by omega, i + 2, by omega, ⟨by simp; omega, by simp [hm], by simp [hd], by simp [hr]⟩, fun j hj h => ?_⟩⟩
          by_cases e : j = i
          · subst e; exact hx
          · exact hn j (by omega) h
        · have e3 : (l[i + 1] ≤ l[i]) = True := eq_true (by omega)
          refine ⟨.ret, _, .of fun K => by simp [l_tally_rising_0, e1', e0', a1, hl.at hi', e2', load_ints hi, load_ints hi', e3]; rfl, .inr ⟨by simp, by simp [hm], by simp [hd], .inl ⟨rfl, rfl, ?_⟩⟩⟩
          cases h : risingB l with
          | false => rfl
          | true => exact absurd ((risingB_iff l).1 h i hi) hx)
  obtain ⟨o, s, h1, h2, h3, h4, h5⟩ := key l.length { env := [(0, .r v), (5, i64 l.length), (6, i64 0)], m := { h := m.h } } ⟨0, by omega, ⟨by simp, rfl, rfl, rfl⟩, by simp⟩
  obtain ⟨n0, h1⟩ := h1.get
  rcases h5 with ⟨rfl, h5, h6⟩ | ⟨rfl, h6⟩ <;> rw [h6]
  · exact CallR.eval0 rfl rfl prog_tally_rising rfl ⟨n0, fun k hk => by simp [a_tally_rising, hl.len, h1 k hk, h4, h5, h3]⟩
  · exact CallR.eval0 rfl rfl prog_tally_rising rfl ⟨n0, fun k hk => by simp [a_tally_rising, hl.len, h1 k hk, h4, h3]⟩

section
variable {d : Div} {a0 a1 n0 n1 p q : RV}
theorem member_spec (hn : 1 ≤ d.n) (hn' : d.n ≤ 40) (x : Int) (m : Mem) : CallR C (fnv fn_tally_Division_member) [.r (.agg (divC d a0 a1 n0 n1 p q)), i64 x] m (.ret (bo (memB d.n x)) m) := by
  have hw : IntKind.wrap .i64 (d.n - 1) = d.n - 1 := by rw [w64] <;> omega
  obtain ⟨H, hH⟩ : ∃ H, H = m.h ++ [.cells (rs (divC d a0 a1 n0 n1 p q)) ty_tally_Division 0] := ⟨_, rfl⟩
  have hc : H[m.h.length]? = some (.cells (rs (divC d a0 a1 n0 n1 p q)) ty_tally_Division 0) := by simp [hH]
  have ht : H.take m.h.length = m.h := by simp [hH]
  obtain ⟨c1, k1⟩ := within_spec x 0 (d.n - 1) { h := H }
  rw [show (decide (0 ≤ x) && decide (x ≤ d.n - 1)) = memB d.n x from rfl] at k1
  exact CallR.eval (m1 := { h := H }) rfl rfl prog_tally_Division_member rfl ⟨c1, fun k hk => by simp [a_tally_Division_member, ← hH, hc, hw, k1 k hk]⟩ ht (by simp)

/-- The same as a function value that holds its division. -/
theorem CallR.first {C : Cfg} {f : FuncId} {a : List RV} {args : List AV} {m : Mem} {r : CRes} (h : CallR C (.r (.fn f [] [])) (rs a ++ args) m r) : CallR C (.r (.fn f a [])) args m r := by
  obtain ⟨n0, h⟩ := h
  refine ⟨n0, fun n hn => ?_⟩
  have := h n hn
  cases n with
  | zero => simp [callN] at this
  | succ n => simpa [callN] using this

theorem listed_spec (hn : 1 ≤ d.n) (hn' : d.n ≤ 40) {l : List Int} {v : RV} (hl : SlI l v) (hb : l.length < 2 ^ 63) (m : Mem) :
    CallR C (fnv fn_tally_Division_listed) [.r (.agg (divC d a0 a1 n0 n1 p q)), .r v] m (.ret (bo (listB d.n l)) m) := by
  obtain ⟨H, hH⟩ : ∃ H, H = m.h ++ [.cells (rs (divC d a0 a1 n0 n1 p q)) ty_tally_Division 0] := ⟨_, rfl⟩
  have hc : H[m.h.length]? = some (.cells (rs (divC d a0 a1 n0 n1 p q)) ty_tally_Division 0) := by simp [hH]
  have ht : H.take m.h.length = m.h := by simp [hH]
  obtain ⟨c1, k1⟩ := all_int_spec (m := { h := H }) (lv := .r v) (R := .r (.fn fn_tally_Division_member [.agg (divC d a0 a1 n0 n1 p q)] [])) (n := l.length) (p := fun i => memB d.n (l.getD i 0)) hb rfl rfl (fun X => Els.ofInts hl _)
    (fun i hi X => CallR.first (member_spec hn hn' _ _))
  obtain ⟨c2, k2⟩ := tRising_spec hl hb { h := H }
  have he : ((List.range l.length).all fun i => memB d.n (l.getD i 0)) = l.all (memB d.n) := by
    cases h : l.all (memB d.n) with
    | true =>
      rw [List.all_eq_true] at h
      exact range_all_of fun j hj => by rw [getD_get hj]; exact h _ (by simp)
    | false =>
      rw [List.all_eq_false] at h
      obtain ⟨x, hx, hq⟩ := h
      obtain ⟨i, hi, rfl⟩ := List.getElem_of_mem hx
      exact range_all_not hi (by rw [getD_get hi]; simpa using hq)
  rw [he] at k1
  cases h1 : l.all (memB d.n) with
  | false =>
    rw [h1] at k1
    rw [show listB d.n l = false by simp only [listB, h1]; rfl]
    exact CallR.eval (m1 := { h := H }) rfl rfl prog_tally_Division_listed rfl ⟨c1, fun k hk => by simp [a_tally_Division_listed, ← hH, hc, allR, AV.toR, k1 k hk]⟩ ht (by simp)
  | true =>
    rw [h1] at k1
    rw [show listB d.n l = risingB l by simp only [listB, h1]; rfl]
    exact CallR.eval (m1 := { h := H }) rfl rfl prog_tally_Division_listed rfl ⟨max c1 c2, fun k hk => by simp [a_tally_Division_listed, ← hH, hc, allR, AV.toR, k1 k (by omega), k2 k (by omega)]⟩ ht (by simp)
end
end Go.AM.T
/- What the functions compute (own work). -/
namespace Go.AM.T
open Go Go.AM
attribute [local simp] so_mov so_pick so_alloc so_box so_build so_slit so_load so_store so_nilc so_bin so_beq so_eqs so_eqn so_eqnl so_not so_conv so_s2b so_mkfn so_slcA so_padd so_fld so_idxA so_idxV so_idxT so_look so_mupd so_mkmap so_mksl so_ext so_app so_lenT so_lenM so_min so_max so_cpy so_clr so_mkif so_tass so_lenS so_idxS so_slc
attribute [local simp] dn_skip dn_label dn_ret dn_exit dn_scope dn_keep dn_reg dn_draw0 noSlots denE denEI stepE  sd_mov sd_pick sd_build sd_load sd_store sd_nilc sd_bin sd_beq sd_eqs sd_eqn sd_eqnl sd_not sd_conv sd_s2b sd_mkfn sd_slc sd_slcA sd_padd sd_fld sd_idxS sd_idxA sd_idxV sd_idxT sd_look sd_mupd sd_ext sd_app sd_lenS sd_lenT sd_lenM sd_min sd_max sd_mkif sd_tass sd_call sd_slit dn_seq dn_cond dn_block dn_loop kn_call denIs denI denOp wants ev eget putD binL enumFrom AV.bool? AV.int? ekeep evs evp runV fin runDefs resAll resOf tupOf unit AV.cells okV ok1 Value.oneCell' fill setN rcells rs_nil rs_cons load_own load_cons mkAgg_rs storeN jmpOut
attribute [local simp] dvL dv1t dvAt mkAgg2 dv0 dv1 dv2 dv3 dv4 dv5 dv6 dv7 dv8 dv9 dv10 dvA dvN dvAll C_fz fzr
def ruleFns : List RV := [.fn fn_tally_rules_2 [] [.ptr [.fn fn_tally_rules_1 [] []]], .fn fn_tally_rules_3 [] [.ptr [.fn fn_tally_rules_1 [] []]], .fn fn_tally_rules_4 [] []]
theorem rules_spec (m : Mem) : CallR C (fnv fn_tally_rules) [] m (.ret (.r (.sl ruleFns 3 (some 3))) m) := by
  refine CallR.eval (m1 := { h := m.h ++ [.cells [.r (.fn fn_tally_rules_1 [] [])] ty_func_tally_Division_bool 0, .cells [.fn fn_tally_rules_2 [] [.own m.h.length 0 0], .fn fn_tally_rules_3 [] [.own m.h.length 0 0], .r (.fn fn_tally_rules_4 [] [])] ty_tally_rule 0], wr := [m.h.length] }) rfl rfl prog_tally_rules rfl ⟨0, fun k hk => ?_⟩ (by simp) (by simp)
  simp [a_tally_rules, allR, AV.toR, mkAgg, repl, fz, fzs, ruleFns]

/-- A map that is a set. -/
def mp (S : List Int) : List (RV × AV) := S.map fun x => (.lit (.int .i64 x), bo true)
theorem findK_mp (x : Int) : ∀ (S : List Int) (i : Nat), (x ∉ S → findK none (.lit (.int .i64 x)) (mp S) i = some none) ∧ (x ∈ S → ∃ j, findK none (.lit (.int .i64 x)) (mp S) i = some (some (j, bo true)))
  | [], i => ⟨fun _ => rfl, fun h => by simp at h⟩
  | y :: S, i => by
    obtain ⟨h1, h2⟩ := findK_mp x S (i + 1)
    have e : findK none (.lit (.int .i64 x)) (mp (y :: S)) i = if x = y then some (some (i, bo true)) else findK none (.lit (.int .i64 x)) (mp S) (i + 1) := by
      simp only [mp, List.map_cons, findK, keyEq, rvEq, if_true]
      by_cases hxy : x = y
      · subst hxy; simp
      · rw [show (x == y) = false by simpa using hxy]; simp [hxy]
    rw [e]
    refine ⟨fun h => ?_, fun h => ?_⟩
    · simp only [List.mem_cons, not_or] at h
      rw [if_neg h.1]; exact h1 h.2
    · by_cases hxy : x = y
      · rw [if_pos hxy]; exact ⟨i, rfl⟩
      · rw [if_neg hxy]
        exact h2 (by simpa [hxy] using h)
theorem mp_append (S : List Int) (x : Int) : mp S ++ [(.lit (.int .i64 x), bo true)] = mp (S ++ [x]) := by simp [mp]

/-- What a heap holds of a division whose bonds are looked at. -/
structure HB (m : Mem) (d : Div) (a0 a1 n0 n1 p q : RV) (H : List Blk) (W : List Nat) (S1 S2 : List Int) : Prop where
  div : H[m.h.length]? = some (.cells (rs (divC d a0 a1 n0 n1 p q)) ty_tally_Division 0)
  m1 : H[m.h.length + 1]? = some (.map (mp S1))
  m2 : H[m.h.length + 2]? = some (.map (mp S2))
  bx : H[m.h.length + 3]? = some (.cells [.omap (m.h.length + 2)] ty_map_int_bool 0)
  tk : H.take m.h.length = m.h
  wr : ∀ x ∈ W, m.h.length ≤ x

section
variable {m : Mem} {d : Div} {a0 a1 n0 n1 p q : RV} {H : List Blk} {W : List Nat} {S1 S2 : List Int}
theorem HB.lt (h : HB m d a0 a1 n0 n1 p q H W S1 S2) : m.h.length + 3 < H.length := getElem?_lt h.bx
theorem HB.push (h : HB m d a0 a1 n0 n1 p q H W S1 S2) (b : Blk) : HB m d a0 a1 n0 n1 p q (H ++ [b]) (H.length :: W) S1 S2 := by
  have hl := h.lt
  refine ⟨?_, ?_, ?_, ?_, ?_, fun x hx => ?_⟩
  · rw [List.getElem?_append_left (by omega)]; exact h.div
  · rw [List.getElem?_append_left (by omega)]; exact h.m1
  · rw [List.getElem?_append_left (by omega)]; exact h.m2
  · rw [List.getElem?_append_left (by omega)]; exact h.bx
  · rw [List.take_append_of_le_length (by omega)]; exact h.tk
  · rcases List.mem_cons.1 hx with rfl | hx
    · omega
    · exact h.wr x hx
theorem HB.wrc (h : HB m d a0 a1 n0 n1 p q H W S1 S2) {x : Nat} (hx : m.h.length ≤ x) : HB m d a0 a1 n0 n1 p q H (x :: W) S1 S2 :=
  ⟨h.div, h.m1, h.m2, h.bx, h.tk, fun y hy => by
    rcases List.mem_cons.1 hy with rfl | hy
    · exact hx
    · exact h.wr y hy⟩
theorem HB.set1 (h : HB m d a0 a1 n0 n1 p q H W S1 S2) (S : List Int) : HB m d a0 a1 n0 n1 p q (H.set (m.h.length + 1) (.map (mp S))) ((m.h.length + 1) :: W) S S2 := by
  have hl := h.lt
  refine ⟨?_, ?_, ?_, ?_, ?_, fun x hx => ?_⟩
  · rw [List.getElem?_set_ne (by omega)]; exact h.div
  · exact List.getElem?_set_self (by omega)
  · rw [List.getElem?_set_ne (by omega)]; exact h.m2
  · rw [List.getElem?_set_ne (by omega)]; exact h.bx
  · rw [List.take_set_of_le (by omega)]; exact h.tk
  · rcases List.mem_cons.1 hx with rfl | hx
    · omega
    · exact h.wr x hx
theorem HB.set2 (h : HB m d a0 a1 n0 n1 p q H W S1 S2) (S : List Int) : HB m d a0 a1 n0 n1 p q (H.set (m.h.length + 2) (.map (mp S))) ((m.h.length + 2) :: W) S1 S := by
  have hl := h.lt
  refine ⟨?_, ?_, ?_, ?_, ?_, fun x hx => ?_⟩
  · rw [List.getElem?_set_ne (by omega)]; exact h.div
  · rw [List.getElem?_set_ne (by omega)]; exact h.m1
  · exact List.getElem?_set_self (by omega)
  · rw [List.getElem?_set_ne (by omega)]; exact h.bx
  · rw [List.take_set_of_le (by omega)]; exact h.tk
  · rcases List.mem_cons.1 hx with rfl | hx
    · omega
    · exact h.wr x hx
end

def pairsP (n : Int) : List Int → List (Int × Int) → Bool
  | _, [] => true
  | S, p :: r => !pairBad n p && !S.contains p.1 && !S.contains p.2 && pairsP n (S ++ [p.1, p.2]) r

section
variable {d : Div} {a0 a1 n0 n1 p q : RV}
theorem bound_pairs (hs : DivS d a0 a1 n0 n1 p q) (hb : Small d) (hn : 1 ≤ d.n) (hn' : d.n ≤ 40) (m : Mem) : ∀ (H : List Blk) (W : List Nat) (S2 : List Int), HB m d a0 a1 n0 n1 p q H W [] S2 →
    ∀ s : St, ekeep [1, 3, 4, 12, 13, 14] s.env = [(1, .own m.h.length 0 0), (3, .omap (m.h.length + 1)), (4, .own (m.h.length + 3) 0 0), (12, .r p), (13, i64 d.pairs.length), (14, i64 0)] → s.m = { h := H, wr := W } → s.defs = [] →
    ∃ o s' H' W' S1, Loop C [1, 3, 4, 12, 13, 14] l_tally_Division_bound_1 s o s' ∧ s'.m = { h := H', wr := W' } ∧ HB m d a0 a1 n0 n1 p q H' W' S1 S2 ∧ s'.defs = [] ∧
      ((o = .ret ∧ eget s'.env 2 = bo false ∧ pairsP d.n [] d.pairs = false) ∨ (o = .exit 0 ∧ eget s'.env 1 = .own m.h.length 0 0 ∧ eget s'.env 4 = .own (m.h.length + 3) 0 0 ∧ pairsP d.n [] d.pairs = true)) := by
  intro H W S2 hF s he hm hd
  have key := Loop.run (C := C) (c := l_tally_Division_bound_1) (live := [1, 3, 4, 12, 13, 14]) (fun k s => ∃ (j : Nat) (H : List Blk) (W : List Nat) (S : List Int), j + k = d.pairs.length ∧
      ekeep [1, 3, 4, 12, 13, 14] s.env = [(1, .own m.h.length 0 0), (3, .omap (m.h.length + 1)), (4, .own (m.h.length + 3) 0 0), (12, .r p), (13, i64 d.pairs.length), (14, i64 j)] ∧ s.m = { h := H, wr := W } ∧
      HB m d a0 a1 n0 n1 p q H W S S2 ∧ s.defs = [] ∧ pairsP d.n [] d.pairs = pairsP d.n S (d.pairs.drop j))
    (fun o s' => ∃ H' W' S1, s'.m = { h := H', wr := W' } ∧ HB m d a0 a1 n0 n1 p q H' W' S1 S2 ∧ s'.defs = [] ∧
      ((o = .ret ∧ eget s'.env 2 = bo false ∧ pairsP d.n [] d.pairs = false) ∨ (o = .exit 0 ∧ eget s'.env 1 = .own m.h.length 0 0 ∧ eget s'.env 4 = .own (m.h.length + 3) 0 0 ∧ pairsP d.n [] d.pairs = true))) (by
    rintro k s ⟨j, H, W, S, hjk, he, hm, hF, hd, hx⟩
    rw [he]
    cases k with
    | zero =>
      have hj : j = d.pairs.length := by omega
      subst hj
      refine ⟨.exit 0, _, .of fun K => by simp [l_tally_Division_bound_1]; rfl, .inr ⟨by simp, H, W, S, by simp [hm], hF, by simp [hd], .inr ⟨rfl, by simp, by simp, ?_⟩⟩⟩
      rw [hx]; simp [pairsP]
    | succ k =>
      have hj : j < d.pairs.length := by omega
      have w1 : IntKind.wrap .i64 ((j : Int) + 1) = j + 1 := by have := hb.p; rw [w64] <;> omega
      have hdr : d.pairs.drop j = d.pairs[j] :: d.pairs.drop (j + 1) := List.drop_eq_getElem_cons hj
      have hlt := hF.lt
      have hA := (hF.push (.cells [i64 d.pairs[j].1, i64 d.pairs[j].2] ty_tally_Pair 0)).div
      have hM1 := (hF.push (.cells [i64 d.pairs[j].1, i64 d.pairs[j].2] ty_tally_Pair 0)).m1
      obtain ⟨M, hM⟩ : ∃ M : Mem, M = { h := H ++ [.cells [i64 d.pairs[j].1, i64 d.pairs[j].2] ty_tally_Pair 0], wr := H.length :: W } := ⟨_, rfl⟩
      have bad : (!pairBad d.n d.pairs[j] && !S.contains d.pairs[j].1 && !S.contains d.pairs[j].2) = false → pairsP d.n [] d.pairs = false := fun h => by rw [hx, hdr]; simp only [pairsP, h]; rfl
      obtain ⟨c1, k1⟩ := member_spec (a0 := a0) (a1 := a1) (n0 := n0) (n1 := n1) (p := p) (q := q) hn hn' d.pairs[j].1 M
      obtain ⟨c2, k2⟩ := member_spec (a0 := a0) (a1 := a1) (n0 := n0) (n1 := n1) (p := p) (q := q) hn hn' d.pairs[j].2 M
      rw [hM] at k1 k2
      cases m1 : memB d.n d.pairs[j].1 with
      | false =>
        rw [m1] at k1
        refine ⟨.ret, _, .ofN ⟨c1, fun n hn => by simp [l_tally_Division_bound_1, hm, hs.p.at hj, load_prs hj, hj, hA, k1 n hn]; rfl⟩, .inr ⟨by simp, _, _, S, rfl, hF.push _, by simp [hd], .inl ⟨rfl, by simp, bad (by simp [pairBad, m1])⟩⟩⟩
      | true =>
        rw [m1] at k1
        cases m2 : memB d.n d.pairs[j].2 with
        | false =>
          rw [m2] at k2
          refine ⟨.ret, _, .ofN ⟨max c1 c2, fun n hn => by simp [l_tally_Division_bound_1, hm, hs.p.at hj, load_prs hj, hj, hA, hM1, k1 n (by omega), k2 n (by omega)]; rfl⟩, .inr ⟨by simp, _, _, S, rfl, hF.push _, by simp [hd], .inl ⟨rfl, by simp, bad (by simp [pairBad, m2])⟩⟩⟩
        | true =>
          rw [m2] at k2
          cases e3 : (d.pairs[j].1 == d.pairs[j].2) with
          | true =>
            refine ⟨.ret, _, .ofN ⟨max c1 c2, fun n hn => by simp [l_tally_Division_bound_1, hm, hs.p.at hj, load_prs hj, hj, hA, hM1, k1 n (by omega), k2 n (by omega), e3]; rfl⟩, .inr ⟨by simp, _, _, S, rfl, hF.push _, by simp [hd], .inl ⟨rfl, by simp, bad (by simp [pairBad, e3])⟩⟩⟩
          | false =>
            by_cases qa : d.pairs[j].1 ∈ S
            · obtain ⟨ja, fa⟩ := (findK_mp d.pairs[j].1 S 0).2 qa
              refine ⟨.ret, _, .ofN ⟨max c1 c2, fun n hn => by simp [l_tally_Division_bound_1, hm, hs.p.at hj, load_prs hj, hj, hA, hM1, k1 n (by omega), k2 n (by omega), e3, fa]; rfl⟩, .inr ⟨by simp, _, _, S, rfl, hF.push _, by simp [hd], .inl ⟨rfl, by simp, bad (by simp [qa])⟩⟩⟩
            have fa := (findK_mp d.pairs[j].1 S 0).1 qa
            by_cases qb : d.pairs[j].2 ∈ S
            · obtain ⟨jb, fb⟩ := (findK_mp d.pairs[j].2 S 0).2 qb
              refine ⟨.ret, _, .ofN ⟨max c1 c2, fun n hn => by simp [l_tally_Division_bound_1, hm, hs.p.at hj, load_prs hj, hj, hA, hM1, k1 n (by omega), k2 n (by omega), e3, fa, fb]; rfl⟩, .inr ⟨by simp, _, _, S, rfl, hF.push _, by simp [hd], .inl ⟨rfl, by simp, bad (by simp [qb])⟩⟩⟩
            have fb := (findK_mp d.pairs[j].2 S 0).1 qb
            have hne : d.pairs[j].1 ≠ d.pairs[j].2 := by simpa using e3
            have fb' := (findK_mp d.pairs[j].2 (S ++ [d.pairs[j].1]) 0).1 (by simp [qb]; exact fun h => hne h.symm)
            have hL : (m.h.length + 1 = H.length) = False := eq_false (by omega)
            have hS := ((hF.push (.cells [i64 d.pairs[j].1, i64 d.pairs[j].2] ty_tally_Pair 0)).set1 (S ++ [d.pairs[j].1])).m1
            refine ⟨.norm, _, .ofN ⟨max c1 c2, fun n hn => by simp [hS, hL, l_tally_Division_bound_1, hm, hs.p.at hj, load_prs hj, hj, hA, hM1, k1 n (by omega), k2 n (by omega), e3, fa, fb, fb', mp_append, w1, dn_drawF, denF, denFI, stepF, slotFree, slotOf, foot, avIdx, wrAll, pairsOk, apartL]; rfl⟩, .inl ⟨rfl, k, by omega, j + 1, _, _, S ++ [d.pairs[j].1, d.pairs[j].2], by omega, by simp, rfl, ?_, by simp [hd], ?_⟩⟩
            · exact ((hF.push _).set1 _).wrc (by omega)
            · rw [hx, hdr]
              simp only [pairsP]
              simp [pairBad, m1, m2, e3, qa, qb])
  obtain ⟨o, s', h1, h2, H', W', S1, h3⟩ := key d.pairs.length s ⟨0, H, W, [], by omega, he, hm, hF, hd, by simp⟩
  exact ⟨o, s', H', W', S1, h1, h3⟩
end
end Go.AM.T
/- What the functions compute (own work). -/
namespace Go.AM.T
open Go Go.AM
attribute [local simp] so_mov so_pick so_alloc so_box so_build so_slit so_load so_store so_nilc so_bin so_beq so_eqs so_eqn so_eqnl so_not so_conv so_s2b so_mkfn so_slcA so_padd so_fld so_idxA so_idxV so_idxT so_look so_mupd so_mkmap so_mksl so_ext so_app so_lenT so_lenM so_min so_max so_cpy so_clr so_mkif so_tass so_lenS so_idxS so_slc
attribute [local simp] dn_skip dn_label dn_ret dn_exit dn_scope dn_keep dn_reg dn_draw0 noSlots denE denEI stepE  sd_mov sd_pick sd_build sd_load sd_store sd_nilc sd_bin sd_beq sd_eqs sd_eqn sd_eqnl sd_not sd_conv sd_s2b sd_mkfn sd_slc sd_slcA sd_padd sd_fld sd_idxS sd_idxA sd_idxV sd_idxT sd_look sd_mupd sd_ext sd_app sd_lenS sd_lenT sd_lenM sd_min sd_max sd_mkif sd_tass sd_call sd_slit dn_seq dn_cond dn_block dn_loop kn_call denIs denI denOp wants ev eget putD binL enumFrom AV.bool? AV.int? ekeep evs evp runV fin runDefs resAll resOf tupOf unit AV.cells okV ok1 Value.oneCell' fill setN rcells rs_nil rs_cons load_own load_cons mkAgg_rs storeN jmpOut
attribute [local simp] dvL dv1t dvAt mkAgg2 dv0 dv1 dv2 dv3 dv4 dv5 dv6 dv7 dv8 dv9 dv10 dvA dvN dvAll C_fz fzr
def proxP (n : Int) : List Int → List (Int × Int) → Option (List Int)
  | S, [] => some S
  | S, p :: r => if !pairBad n p && !S.contains p.2 then proxP n (S ++ [p.2]) r else none

section
variable {d : Div} {a0 a1 n0 n1 p q : RV}
theorem bound_prox (hs : DivS d a0 a1 n0 n1 p q) (hb : Small d) (hn : 1 ≤ d.n) (hn' : d.n ≤ 40) (m : Mem) : ∀ (H : List Blk) (W : List Nat) (S1 : List Int), HB m d a0 a1 n0 n1 p q H W S1 [] →
    ∀ s : St, ekeep [1, 4, 57, 58, 59] s.env = [(1, .own m.h.length 0 0), (4, .own (m.h.length + 3) 0 0), (57, .r q), (58, i64 d.proxies.length), (59, i64 0)] → s.m = { h := H, wr := W } → s.defs = [] →
    ∃ o s' H' W' S2, Loop C [1, 4, 57, 58, 59] l_tally_Division_bound_0 s o s' ∧ s'.m = { h := H', wr := W' } ∧ HB m d a0 a1 n0 n1 p q H' W' S1 S2 ∧ s'.defs = [] ∧
      ((o = .ret ∧ eget s'.env 2 = bo false ∧ proxP d.n [] d.proxies = none) ∨ (o = .exit 2 ∧ eget s'.env 1 = .own m.h.length 0 0 ∧ eget s'.env 4 = .own (m.h.length + 3) 0 0 ∧ proxP d.n [] d.proxies = some S2)) := by
  intro H W S1 hF s he hm hd
  have key := Loop.run (C := C) (c := l_tally_Division_bound_0) (live := [1, 4, 57, 58, 59]) (fun k s => ∃ (j : Nat) (H : List Blk) (W : List Nat) (S : List Int), j + k = d.proxies.length ∧
      ekeep [1, 4, 57, 58, 59] s.env = [(1, .own m.h.length 0 0), (4, .own (m.h.length + 3) 0 0), (57, .r q), (58, i64 d.proxies.length), (59, i64 j)] ∧ s.m = { h := H, wr := W } ∧
      HB m d a0 a1 n0 n1 p q H W S1 S ∧ s.defs = [] ∧ proxP d.n [] d.proxies = proxP d.n S (d.proxies.drop j))
    (fun o s' => ∃ H' W' S2, s'.m = { h := H', wr := W' } ∧ HB m d a0 a1 n0 n1 p q H' W' S1 S2 ∧ s'.defs = [] ∧
      ((o = .ret ∧ eget s'.env 2 = bo false ∧ proxP d.n [] d.proxies = none) ∨ (o = .exit 2 ∧ eget s'.env 1 = .own m.h.length 0 0 ∧ eget s'.env 4 = .own (m.h.length + 3) 0 0 ∧ proxP d.n [] d.proxies = some S2))) (by
    rintro k s ⟨j, H, W, S, hjk, he, hm, hF, hd, hx⟩
    rw [he]
    cases k with
    | zero =>
      have hj : j = d.proxies.length := by omega
      subst hj
      refine ⟨.exit 2, _, .of fun K => by simp [l_tally_Division_bound_0]; rfl, .inr ⟨by simp, H, W, S, by simp [hm], hF, by simp [hd], .inr ⟨rfl, by simp, by simp, ?_⟩⟩⟩
      rw [hx]; simp [proxP]
    | succ k =>
      have hj : j < d.proxies.length := by omega
      have w1 : IntKind.wrap .i64 ((j : Int) + 1) = j + 1 := by have := hb.q; rw [w64] <;> omega
      have hdr : d.proxies.drop j = d.proxies[j] :: d.proxies.drop (j + 1) := List.drop_eq_getElem_cons hj
      have hlt := hF.lt
      have hA := (hF.push (.cells [i64 d.proxies[j].1, i64 d.proxies[j].2] ty_tally_Proxy 0)).div
      have hM2 := (hF.push (.cells [i64 d.proxies[j].1, i64 d.proxies[j].2] ty_tally_Proxy 0)).m2
      have hBx := (hF.push (.cells [i64 d.proxies[j].1, i64 d.proxies[j].2] ty_tally_Proxy 0)).bx
      obtain ⟨M, hM⟩ : ∃ M : Mem, M = { h := H ++ [.cells [i64 d.proxies[j].1, i64 d.proxies[j].2] ty_tally_Proxy 0], wr := H.length :: W } := ⟨_, rfl⟩
      have bad : (!pairBad d.n d.proxies[j] && !S.contains d.proxies[j].2) = false → proxP d.n [] d.proxies = none := fun h => by rw [hx, hdr]; simp only [proxP, h]; rfl
      obtain ⟨c1, k1⟩ := member_spec (a0 := a0) (a1 := a1) (n0 := n0) (n1 := n1) (p := p) (q := q) hn hn' d.proxies[j].1 M
      obtain ⟨c2, k2⟩ := member_spec (a0 := a0) (a1 := a1) (n0 := n0) (n1 := n1) (p := p) (q := q) hn hn' d.proxies[j].2 M
      rw [hM] at k1 k2
      cases m1 : memB d.n d.proxies[j].1 with
      | false =>
        rw [m1] at k1
        refine ⟨.ret, _, .ofN ⟨c1, fun n hn => by simp [l_tally_Division_bound_0, hm, hs.q.at hj, load_prs hj, hj, hA, hM2, hBx, k1 n (by omega), hj]; rfl⟩, .inr ⟨by simp, _, _, S, rfl, hF.push _, by simp [hd], .inl ⟨rfl, by simp, bad (by simp [pairBad, m1])⟩⟩⟩
      | true =>
        rw [m1] at k1
        cases m2 : memB d.n d.proxies[j].2 with
        | false =>
          rw [m2] at k2
          refine ⟨.ret, _, .ofN ⟨max c1 c2, fun n hn => by simp [l_tally_Division_bound_0, hm, hs.q.at hj, load_prs hj, hj, hA, hM2, hBx, k1 n (by omega), k2 n (by omega)]; rfl⟩, .inr ⟨by simp, _, _, S, rfl, hF.push _, by simp [hd], .inl ⟨rfl, by simp, bad (by simp [pairBad, m2])⟩⟩⟩
        | true =>
          rw [m2] at k2
          cases e3 : (d.proxies[j].1 == d.proxies[j].2) with
          | true =>
            refine ⟨.ret, _, .ofN ⟨max c1 c2, fun n hn => by simp [l_tally_Division_bound_0, hm, hs.q.at hj, load_prs hj, hj, hA, hM2, hBx, k1 n (by omega), k2 n (by omega), e3]; rfl⟩, .inr ⟨by simp, _, _, S, rfl, hF.push _, by simp [hd], .inl ⟨rfl, by simp, bad (by simp [pairBad, e3])⟩⟩⟩
          | false =>
            by_cases qb : d.proxies[j].2 ∈ S
            · obtain ⟨jb, fb⟩ := (findK_mp d.proxies[j].2 S 0).2 qb
              refine ⟨.ret, _, .ofN ⟨max c1 c2, fun n hn => by simp [l_tally_Division_bound_0, hm, hs.q.at hj, load_prs hj, hj, hA, hM2, hBx, k1 n (by omega), k2 n (by omega), e3, fb]; rfl⟩, .inr ⟨by simp, _, _, S, rfl, hF.push _, by simp [hd], .inl ⟨rfl, by simp, bad (by simp [qb])⟩⟩⟩
            have fb := (findK_mp d.proxies[j].2 S 0).1 qb
            refine ⟨.norm, _, .ofN ⟨max c1 c2, fun n hn => by simp [l_tally_Division_bound_0, hm, hs.q.at hj, load_prs hj, hj, hA, hM2, hBx, k1 n (by omega), k2 n (by omega), e3, fb, mp_append, w1]; rfl⟩, .inl ⟨rfl, k, by omega, j + 1, _, _, S ++ [d.proxies[j].2], by omega, by simp, rfl, (hF.push _).set2 _, by simp [hd], ?_⟩⟩
            rw [hx, hdr]
            simp only [proxP]
            simp [pairBad, m1, m2, e3, qb])
  obtain ⟨o, s', h1, h2, H', W', S2, h3⟩ := key d.proxies.length s ⟨0, H, W, [], by omega, he, hm, hF, hd, by simp⟩
  exact ⟨o, s', H', W', S2, h1, h3⟩

/-- The holder is not one for whom somebody votes. -/
theorem bound1_spec {H : List Blk} {W : List Nat} {b i : Nat} {S : List Int} (hb : H[b]? = some (.cells [.omap i] ty_map_int_bool 0)) (hi : H[i]? = some (.map (mp S))) (x y : Int) :
    CallR C (.fn fn_tally_Division_bound_1 [] [.own b 0 0]) [.r (.agg [.lit (.int .i64 x), .lit (.int .i64 y)])] { h := H, wr := W } (.ret (bo (!S.contains x)) { h := H, wr := W }) := by
  have hbl : b < H.length := getElem?_lt hb
  have hil : i < H.length := getElem?_lt hi
  have hA : ∀ b', (H ++ [b'])[b]? = some (.cells [.omap i] ty_map_int_bool 0) := fun b' => by rw [List.getElem?_append_left hbl]; exact hb
  have hA' : ∀ b', (H ++ [b'])[i]? = some (.map (mp S)) := fun b' => by rw [List.getElem?_append_left hil]; exact hi
  by_cases hx : x ∈ S
  · obtain ⟨j, f⟩ := (findK_mp x S 0).2 hx
    rw [show S.contains x = true by simpa using hx]
    exact CallR.evalA (m1 := { h := H ++ [.cells [i64 x, i64 y] ty_tally_Proxy 0] }) rfl rfl prog_tally_Division_bound_1 rfl ⟨0, fun k hk => by simp [a_tally_Division_bound_1, hA, hA', f]⟩ (by simp) (by simp)
  · have f := (findK_mp x S 0).1 hx
    rw [show S.contains x = false by simpa using hx]
    exact CallR.evalA (m1 := { h := H ++ [.cells [i64 x, i64 y] ty_tally_Proxy 0] }) rfl rfl prog_tally_Division_bound_1 rfl ⟨0, fun k hk => by simp [a_tally_Division_bound_1, hA, hA', f]⟩ (by simp) (by simp)

def boundB (d : Div) : Bool := pairsP d.n [] d.pairs && (match proxP d.n [] d.proxies with | some S => (List.range d.proxies.length).all (fun i => !S.contains (d.proxies.getD i (0, 0)).1) | none => false)

theorem bound_spec (hs : DivS d a0 a1 n0 n1 p q) (hb : Small d) (hn : 1 ≤ d.n) (hn' : d.n ≤ 40) (m : Mem) : CallR C (fnv fn_tally_Division_bound) [.r (.agg (divC d a0 a1 n0 n1 p q))] m (.ret (bo (boundB d)) m) := by
  obtain ⟨H, hH⟩ : ∃ H, H = m.h ++ [.cells (rs (divC d a0 a1 n0 n1 p q)) ty_tally_Division 0, .map [], .map [], .cells [.omap (m.h.length + 2)] ty_map_int_bool 0] := ⟨_, rfl⟩
  have h0 : HB m d a0 a1 n0 n1 p q H [m.h.length + 3] [] [] := ⟨by simp [hH], by simp [hH, mp], by simp [hH, mp], by simp [hH], by simp [hH], by simp⟩
  obtain ⟨o1, s1, H1, W1, S1, g1, m1, hF1, f1, h1⟩ := bound_pairs hs hb hn hn' m H [m.h.length + 3] [] h0 { env := [(1, .own m.h.length 0 0), (3, .omap (m.h.length + 1)), (4, .own (m.h.length + 3) 0 0), (12, .r p), (13, i64 d.pairs.length), (14, i64 0)], m := { h := H, wr := [m.h.length + 3] } } (by simp) rfl rfl
  obtain ⟨c1, k1⟩ := g1.get
  rcases h1 with ⟨rfl, w1, e1⟩ | ⟨rfl, w1, w1', e1⟩
  · rw [show boundB d = false by simp [boundB, e1]]
    exact CallR.eval (m1 := { h := H1, wr := W1 }) rfl rfl prog_tally_Division_bound rfl ⟨c1, fun k hk => by simp [a_tally_Division_bound, h0.div, hs.p.len, ← hH, k1 k hk, w1, m1, f1]⟩ hF1.tk hF1.wr
  · obtain ⟨o2, s2, H2, W2, S2, g2, m2, hF2, f2, h2⟩ := bound_prox hs hb hn hn' m H1 W1 S1 hF1 { s1 with env := [(1, .own m.h.length 0 0), (4, .own (m.h.length + 3) 0 0), (57, .r q), (58, i64 d.proxies.length), (59, i64 0)], m := { h := H1, wr := W1 }, defs := [] } (by simp) rfl rfl
    obtain ⟨c2, k2⟩ := g2.get
    rcases h2 with ⟨rfl, w2, e2⟩ | ⟨rfl, w2, w2', e2⟩
    · rw [show boundB d = false by simp [boundB, e2]]
      exact CallR.eval (m1 := { h := H2, wr := W2 }) rfl rfl prog_tally_Division_bound rfl ⟨max c1 c2, fun k hk => by simp [a_tally_Division_bound, h0.div, hs.p.len, hs.q.len, ← hH, k1 k (by omega), w1, w1', m1, f1, hF1.div, k2 k (by omega), w2, m2, f2]⟩ hF2.tk hF2.wr
    · obtain ⟨c3, k3⟩ := all_prx_spec (m := { h := H2, wr := W2 }) (lv := .r q) (R := .fn fn_tally_Division_bound_1 [] [.own (m.h.length + 3) 0 0]) (n := d.proxies.length) (p := fun i => !S2.contains (d.proxies.getD i (0, 0)).1) hb.q rfl rfl (fun X => Els.ofPrs hs.q _) (fun i => ⟨_, _, rfl⟩)
        (fun i hi X => bound1_spec (S := S2) (i := m.h.length + 2) (by rw [List.getElem?_append_left hF2.lt]; exact hF2.bx) (by rw [List.getElem?_append_left (Nat.lt_of_succ_lt hF2.lt)]; exact hF2.m2) _ _)
      rw [show boundB d = (List.range d.proxies.length).all (fun i => !S2.contains (d.proxies.getD i (0, 0)).1) by simp [boundB, e1, e2]]
      exact CallR.eval (m1 := { h := H2, wr := W2 }) rfl rfl prog_tally_Division_bound rfl ⟨max (max c1 c2) c3, fun k hk => by simp [a_tally_Division_bound, h0.div, hs.p.len, hs.q.len, ← hH, k1 k (by omega), w1, w1', m1, f1, hF1.div, k2 k (by omega), w2, w2', m2, f2, hF2.div, allR, AV.toR, k3 k (by omega)]⟩ hF2.tk hF2.wr
end
end Go.AM.T
/- What the functions compute (own work). -/
namespace Go.AM.T
open Go Go.AM
attribute [local simp] so_mov so_pick so_alloc so_box so_build so_slit so_load so_store so_nilc so_bin so_beq so_eqs so_eqn so_eqnl so_not so_conv so_s2b so_mkfn so_slcA so_padd so_fld so_idxA so_idxV so_idxT so_look so_mupd so_mkmap so_mksl so_ext so_app so_lenT so_lenM so_min so_max so_cpy so_clr so_mkif so_tass so_lenS so_idxS so_slc
attribute [local simp] dn_skip dn_label dn_ret dn_exit dn_scope dn_keep dn_reg dn_draw0 noSlots denE denEI stepE  sd_mov sd_pick sd_build sd_load sd_store sd_nilc sd_bin sd_beq sd_eqs sd_eqn sd_eqnl sd_not sd_conv sd_s2b sd_mkfn sd_slc sd_slcA sd_padd sd_fld sd_idxS sd_idxA sd_idxV sd_idxT sd_look sd_mupd sd_ext sd_app sd_lenS sd_lenT sd_lenM sd_min sd_max sd_mkif sd_tass sd_call sd_slit dn_seq dn_cond dn_block dn_loop kn_call denIs denI denOp wants ev eget putD binL enumFrom AV.bool? AV.int? ekeep evs evp runV fin runDefs resAll resOf tupOf unit AV.cells okV ok1 Value.oneCell' fill setN rcells rs_nil rs_cons load_own load_cons mkAgg_rs storeN jmpOut
attribute [local simp] dvL dv1t dvAt mkAgg2 dv0 dv1 dv2 dv3 dv4 dv5 dv6 dv7 dv8 dv9 dv10 dvA dvN dvAll C_fz fzr
theorem lenOf_sl (cs : List RV) (n : Nat) (c : Option Nat) : lenOf (.r (.sl cs n c)) = some n := rfl
def validB (d : Div) : Bool := inB d.n 1 40 && (listB d.n d.a0 && listB d.n d.a1) && (listB d.n d.n0 && listB d.n d.n1) && decide (d.pairs.length ≤ 10) && decide (d.proxies.length ≤ 10) && boundB d && decide (d.rule < 3) && inB d.need 0 40 && inB d.quorum 0 40 && (d.tie == 1 || d.tie == 2)

section
variable {d : Div} {a0 a1 n0 n1 p q : RV}
theorem two_lists_spec (hn : 1 ≤ d.n) (hn' : d.n ≤ 40) {H : List Blk} {W : List Nat} {L o : Nat} {x0 x1 : List Int} {v0 v1 : RV} (h0 : SlI x0 v0) (h1 : SlI x1 v1) (b0 : x0.length < 2 ^ 63) (b1 : x1.length < 2 ^ 63)
    (hc : H[L]? = some (.cells (rs (divC d a0 a1 n0 n1 p q)) ty_tally_Division 0)) (g0 : (rs (divC d a0 a1 n0 n1 p q))[o]? = some (.r v0)) (g1 : (rs (divC d a0 a1 n0 n1 p q))[o + 1]? = some (.r v1)) :
    CallR C (fnv fn_tally_all_Sint) [.osl L 0 o 2 1 (some 2), .r (.fn fn_tally_Division_listed [.agg (divC d a0 a1 n0 n1 p q)] [])] { h := H, wr := W } (.ret (bo (listB d.n x0 && listB d.n x1)) { h := H, wr := W }) := by
  have hL : L < H.length := getElem?_lt hc
  have hE : ∀ X, Els (.osl L 0 o 2 1 (some 2)) 2 1 1 false (H ++ X) (fun i => if i = 0 then .r v0 else .r v1) := fun X => by
    refine ⟨rfl, fun i hi => ⟨.own L 0 (o + i * 1), ?_, fun wr => ?_⟩⟩
    · have : (0 ≤ (i : Int) ∧ (i : Int) < (2 : Nat) ∧ True) := ⟨by omega, by omega, trivial⟩
      simp only [atOf]
      rw [if_pos (by omega)]
      simp
    · have hc' : (H ++ X)[L]? = some (.cells (rs (divC d a0 a1 n0 n1 p q)) ty_tally_Division 0) := by rw [List.getElem?_append_left hL]; exact hc
      have ho : o + 1 < 11 := by have := getElem?_lt g1; simpa using this
      have r0 : List.take 1 (List.drop (o + i * 1) (rs (divC d a0 a1 n0 n1 p q))) = [if i = 0 then .r v0 else .r v1] := by
        rw [List.take_one, List.head?_drop]
        rcases (by omega : i = 0 ∨ i = 1) with rfl | rfl
        · rw [show o + 0 * 1 = o by omega, g0]; rfl
        · rw [show o + 1 * 1 = o + 1 by omega, g1]; rfl
      rw [load_own]
      simp only [rcells, hc', if_true]
      rw [if_pos (by simp; omega), r0]
      simp
  have := all_sl_spec (m := { h := H, wr := W }) (lv := .osl L 0 o 2 1 (some 2)) (R := .r (.fn fn_tally_Division_listed [.agg (divC d a0 a1 n0 n1 p q)] [])) (n := 2) (p := fun i => listB d.n (if i = 0 then x0 else x1)) (by omega) rfl rfl hE
    (fun i hi X => CallR.first (by
      rcases (by omega : i = 0 ∨ i = 1) with rfl | rfl
      · exact listed_spec hn hn' h0 b0 _
      · exact listed_spec hn hn' h1 b1 _))
  simpa [List.range_succ] using this

theorem valid_spec (hs : DivS d a0 a1 n0 n1 p q) (hb : Small d) (hr : 0 ≤ d.rule ∧ d.rule ≤ 255) (m : Mem) : CallR C (fnv fn_tally_Division_valid) [.r (.agg (divC d a0 a1 n0 n1 p q))] m (.ret (bo (validB d)) m) := by
  obtain ⟨H, hH⟩ : ∃ H, H = m.h ++ [.cells (rs (divC d a0 a1 n0 n1 p q)) ty_tally_Division 0] := ⟨_, rfl⟩
  have hc : H[m.h.length]? = some (.cells (rs (divC d a0 a1 n0 n1 p q)) ty_tally_Division 0) := by simp [hH]
  have ht : H.take m.h.length = m.h := by simp [hH]
  obtain ⟨c1, k1⟩ := within_spec d.n 1 40 { h := H }
  obtain ⟨c2, k2⟩ := within_spec d.need 0 40 { h := H }
  obtain ⟨c3, k3⟩ := within_spec d.quorum 0 40 { h := H }
  obtain ⟨c4, k4⟩ := rules_spec { h := H }
  rw [show (decide (1 ≤ d.n) && decide (d.n ≤ 40)) = inB d.n 1 40 from rfl] at k1
  rw [show (decide (0 ≤ d.need) && decide (d.need ≤ 40)) = inB d.need 0 40 from rfl] at k2
  rw [show (decide (0 ≤ d.quorum) && decide (d.quorum ≤ 40)) = inB d.quorum 0 40 from rfl] at k3
  have wr : IntKind.wrap .i64 d.rule = d.rule := by rw [w64] <;> omega
  have ev : ∀ (v : Bool) (c : Nat), validB d = v → (∀ k, c ≤ k → runV (Kn C k) C.fz a_tally_Division_valid [.r (.agg (divC d a0 a1 n0 n1 p q))] m.h = some (bo v, { h := H })) → CallR C (fnv fn_tally_Division_valid) [.r (.agg (divC d a0 a1 n0 n1 p q))] m (.ret (bo (validB d)) m) := by
    intro v c hv h
    rw [hv]
    exact CallR.eval (m1 := { h := H }) rfl rfl prog_tally_Division_valid rfl ⟨c, fun k hk => by simpa using h k hk⟩ ht (by simp)
  cases e1 : inB d.n 1 40 with
  | false =>
    rw [e1] at k1
    exact ev false c1 (by simp [validB, e1]) fun k hk => by simp [dn_drawF, denF, denFI, stepF, slotFree, slotOf, foot, avIdx, wrAll, pairsOk, apartL, bound, allR, AV.toR, a_tally_Division_valid, ← hH, hc, k1 k hk]
  | true =>
  rw [e1] at k1
  have hn : 1 ≤ d.n ∧ d.n ≤ 40 := by simpa [inB] using e1
  obtain ⟨c5, k5⟩ := two_lists_spec (W := []) hn.1 hn.2 hs.a0 hs.a1 hb.a0 hb.a1 hc (o := 1) rfl rfl
  obtain ⟨c6, k6⟩ := two_lists_spec (W := []) hn.1 hn.2 hs.n0 hs.n1 hb.n0 hb.n1 hc (o := 3) rfl rfl
  obtain ⟨c7, k7⟩ := bound_spec hs hb hn.1 hn.2 { h := H }
  obtain ⟨c, hcc⟩ : ∃ c, c = c1 + c2 + c3 + c4 + c5 + c6 + c7 := ⟨_, rfl⟩
  cases e2 : (listB d.n d.a0 && listB d.n d.a1) with
  | false =>
    rw [e2] at k5
    exact ev false c (by simp only [validB, e1, e2]; rfl) fun k hk => by simp [dn_drawF, denF, denFI, stepF, slotFree, slotOf, foot, avIdx, wrAll, pairsOk, apartL, bound, allR, AV.toR, a_tally_Division_valid, ← hH, hc, k1 k (by omega) , k5 k (by omega)]
  | true =>
  rw [e2] at k5
  cases e3 : (listB d.n d.n0 && listB d.n d.n1) with
  | false =>
    rw [e3] at k6
    exact ev false c (by simp only [validB, e1, e2, e3]; rfl) fun k hk => by simp [dn_drawF, denF, denFI, stepF, slotFree, slotOf, foot, avIdx, wrAll, pairsOk, apartL, bound, allR, AV.toR, a_tally_Division_valid, ← hH, hc, wr, k1 k (by omega), k5 k (by omega), k6 k (by omega)]
  | true =>
  rw [e3] at k6
  by_cases e4 : d.pairs.length ≤ 10
  case neg =>
    have e4' : ((d.pairs.length : Int) ≤ 10) = False := eq_false (by omega)
    exact ev false c (by simp [validB, e4]) fun k hk => by simp [dn_drawF, denF, denFI, stepF, slotFree, slotOf, foot, avIdx, wrAll, pairsOk, apartL, bound, allR, AV.toR, a_tally_Division_valid, ← hH, hc, wr, k1 k (by omega), k5 k (by omega), k6 k (by omega), hs.p.len, e4']
  have e4' : ((d.pairs.length : Int) ≤ 10) = True := eq_true (by omega)
  by_cases e5 : d.proxies.length ≤ 10
  case neg =>
    have e5' : ((d.proxies.length : Int) ≤ 10) = False := eq_false (by omega)
    exact ev false c (by simp [validB, e5]) fun k hk => by simp [dn_drawF, denF, denFI, stepF, slotFree, slotOf, foot, avIdx, wrAll, pairsOk, apartL, bound, allR, AV.toR, a_tally_Division_valid, ← hH, hc, wr, k1 k (by omega), k5 k (by omega), k6 k (by omega), hs.p.len, hs.q.len, e4', e5']
  have e5' : ((d.proxies.length : Int) ≤ 10) = True := eq_true (by omega)
  cases e6 : boundB d with
  | false =>
    rw [e6] at k7
    exact ev false c (by simp [validB, e6]) fun k hk => by simp [dn_drawF, denF, denFI, stepF, slotFree, slotOf, foot, avIdx, wrAll, pairsOk, apartL, bound, allR, AV.toR, a_tally_Division_valid, ← hH, hc, wr, k1 k (by omega), k5 k (by omega), k6 k (by omega), hs.p.len, hs.q.len, e4', e5', k7 k (by omega)]
  | true =>
  rw [e6] at k7
  by_cases e7 : d.rule < 3
  case neg =>
    have e7' : (d.rule < 3) = False := eq_false e7
    exact ev false c (by simp [validB, e7]) fun k hk => by simp [dn_drawF, denF, denFI, stepF, slotFree, slotOf, foot, avIdx, wrAll, pairsOk, apartL, bound, allR, AV.toR, a_tally_Division_valid, ← hH, hc, wr, k1 k (by omega), k5 k (by omega), k6 k (by omega), hs.p.len, hs.q.len, e4', e5', k7 k (by omega), k4 k (by omega), lenOf_sl, e7']
  have e7' : (d.rule < 3) = True := eq_true e7
  cases e8 : inB d.need 0 40 with
  | false =>
    rw [e8] at k2
    exact ev false c (by simp [validB, e8]) fun k hk => by simp [dn_drawF, denF, denFI, stepF, slotFree, slotOf, foot, avIdx, wrAll, pairsOk, apartL, bound, allR, AV.toR, a_tally_Division_valid, ← hH, hc, wr, k1 k (by omega), k5 k (by omega), k6 k (by omega), hs.p.len, hs.q.len, e4', e5', k7 k (by omega), k4 k (by omega), lenOf_sl, e7', k2 k (by omega)]
  | true =>
  rw [e8] at k2
  cases e9 : inB d.quorum 0 40 with
  | false =>
    rw [e9] at k3
    exact ev false c (by simp [validB, e9]) fun k hk => by simp [dn_drawF, denF, denFI, stepF, slotFree, slotOf, foot, avIdx, wrAll, pairsOk, apartL, bound, allR, AV.toR, a_tally_Division_valid, ← hH, hc, wr, k1 k (by omega), k5 k (by omega), k6 k (by omega), hs.p.len, hs.q.len, e4', e5', k7 k (by omega), k4 k (by omega), lenOf_sl, e7', k2 k (by omega), k3 k (by omega)]
  | true =>
  rw [e9] at k3
  cases e10 : (d.tie == 1) with
  | true =>
    exact ev true c (by simp [validB, e1, e4, e5, e6, e7, e8, e9, e10]; simpa using And.intro e2 e3) fun k hk => by simp [dn_drawF, denF, denFI, stepF, slotFree, slotOf, foot, avIdx, wrAll, pairsOk, apartL, bound, allR, AV.toR, a_tally_Division_valid, ← hH, hc, wr, k1 k (by omega), k5 k (by omega), k6 k (by omega), hs.p.len, hs.q.len, e4', e5', k7 k (by omega), k4 k (by omega), lenOf_sl, e7', k2 k (by omega), k3 k (by omega), e10]
  | false =>
  cases e11 : (d.tie == 2) with
  | true =>
    exact ev true c (by simp [validB, e1, e4, e5, e6, e7, e8, e9, e10, e11]; simpa using And.intro e2 e3) fun k hk => by simp [dn_drawF, denF, denFI, stepF, slotFree, slotOf, foot, avIdx, wrAll, pairsOk, apartL, bound, allR, AV.toR, a_tally_Division_valid, ← hH, hc, wr, k1 k (by omega), k5 k (by omega), k6 k (by omega), hs.p.len, hs.q.len, e4', e5', k7 k (by omega), k4 k (by omega), lenOf_sl, e7', k2 k (by omega), k3 k (by omega), e10, e11]
  | false =>
    exact ev false c (by simp [validB, e10, e11]) fun k hk => by simp [dn_drawF, denF, denFI, stepF, slotFree, slotOf, foot, avIdx, wrAll, pairsOk, apartL, bound, allR, AV.toR, a_tally_Division_valid, ← hH, hc, wr, k1 k (by omega), k5 k (by omega), k6 k (by omega), hs.p.len, hs.q.len, e4', e5', k7 k (by omega), k4 k (by omega), lenOf_sl, e7', k2 k (by omega), k3 k (by omega), e10, e11]
end
end Go.AM.T
/- What the functions compute (own work). -/
namespace Go.AM.T
open Go Go.AM
attribute [local simp] so_mov so_pick so_alloc so_box so_build so_slit so_load so_store so_nilc so_bin so_beq so_eqs so_eqn so_eqnl so_not so_conv so_s2b so_mkfn so_slcA so_padd so_fld so_idxA so_idxV so_idxT so_look so_mupd so_mkmap so_mksl so_ext so_app so_lenT so_lenM so_min so_max so_cpy so_clr so_mkif so_tass so_lenS so_idxS so_slc
attribute [local simp] dn_skip dn_label dn_ret dn_exit dn_scope dn_keep dn_reg dn_draw0 noSlots denE denEI stepE  sd_mov sd_pick sd_build sd_load sd_store sd_nilc sd_bin sd_beq sd_eqs sd_eqn sd_eqnl sd_not sd_conv sd_s2b sd_mkfn sd_slc sd_slcA sd_padd sd_fld sd_idxS sd_idxA sd_idxV sd_idxT sd_look sd_mupd sd_ext sd_app sd_lenS sd_lenT sd_lenM sd_min sd_max sd_mkif sd_tass sd_call sd_slit dn_seq dn_cond dn_block dn_loop kn_call denIs denI denOp wants ev eget putD binL enumFrom AV.bool? AV.int? ekeep evs evp runV fin runDefs resAll resOf tupOf unit AV.cells okV ok1 Value.oneCell' fill setN rcells rs_nil rs_cons load_own load_cons mkAgg_rs storeN jmpOut
attribute [local simp] dvL dv1t dvAt mkAgg2 dv0 dv1 dv2 dv3 dv4 dv5 dv6 dv7 dv8 dv9 dv10 dvA dvN dvAll C_fz fzr
theorem Index_spec {l : List Int} {v : RV} (hl : SlI l v) (hb : l.length < 2 ^ 63) (x : Int) (m : Mem) : CallR C (fnv fn_slices_Index_Sint_int) [.r v, i64 x] m (.ret (i64 (idxOf l.length (fun i => l.getD i 0 == x))) m) := by
  have key := Loop.run (C := C) (c := l_slices_Index_Sint_int_0) (live := [0, 1, 7, 8]) (fun k s => ∃ i : Nat, i + k = l.length ∧ At1 [0, 1, 7, 8] [(0, .r v), (1, i64 x), (7, i64 l.length), (8, i64 i)] { h := m.h } s ∧ ∀ j, j < i → (l.getD j 0 == x) = false)
    (fun o s => s.m = { h := m.h } ∧ s.defs = [] ∧ ((o = .ret ∧ ∃ i : Nat, eget s.env 4 = i64 i ∧ (List.range l.length).find? (fun i => l.getD i 0 == x) = some i) ∨ (o = .exit 0 ∧ (List.range l.length).find? (fun i => l.getD i 0 == x) = none))) (by
    rintro k s ⟨i, hik, ⟨he, hm, hd, hr⟩, hx⟩
    rw [he]
    cases k with
    | zero =>
      have e1 : ((i : Int) < (l.length : Int)) = False := eq_false (by omega)
      exact ⟨.exit 0, _, .of fun K => by simp [l_slices_Index_Sint_int_0, e1]; rfl, .inr ⟨by simp, by simp [hm], by simp [hd], .inr ⟨rfl, find_none_of fun j hj => hx j (by omega)⟩⟩⟩
    | succ k =>
      have hi : i < l.length := by omega
      have e1 : ((i : Int) < (l.length : Int)) = True := eq_true (by omega)
      have w1 : IntKind.wrap .i64 ((i : Int) + 1) = i + 1 := by rw [w64] <;> omega
      by_cases hq : x = l[i]
      · have hq' : (x == l[i]) = true := by simpa using hq
        exact ⟨.ret, _, .of fun K => by simp [l_slices_Index_Sint_int_0, e1, hl.at hi, load_ints hi, hq']; rfl, .inr ⟨by simp, by simp [hm], by simp [hd], .inl ⟨rfl, i, by simp, find_some_of hi hx (by rw [getD_get hi]; simp [hq])⟩⟩⟩
      · have hq' : (x == l[i]) = false := by simpa using hq
        refine ⟨.norm, _, .of fun K => by simp [l_slices_Index_Sint_int_0, e1, hl.at hi, load_ints hi, hq', w1]; rfl, .inl ⟨rfl, k, by omega, i + 1, by omega, ⟨by simp, by simp [hm], by simp [hd], by simp [hr]⟩, fun j hj => ?_⟩⟩
        by_cases e : j = i
        · subst e; rw [getD_get hi]; simpa using fun h => hq h.symm
        · exact hx j (by omega))
  obtain ⟨o, s, h1, h2, h3, h4, h5⟩ := key l.length { env := [(0, .r v), (1, i64 x), (7, i64 l.length), (8, i64 0)], m := { h := m.h } } ⟨0, by simp, ⟨by simp, rfl, rfl, rfl⟩, by simp⟩
  obtain ⟨c0, h1⟩ := h1.get
  unfold idxOf
  rcases h5 with ⟨rfl, i, h5, h6⟩ | ⟨rfl, h6⟩ <;> rw [h6]
  · exact CallR.eval0 rfl rfl prog_slices_Index_Sint_int rfl ⟨c0, fun k hk => by simp [a_slices_Index_Sint_int, hl.len, h1 k hk, h4, h5, h3]⟩
  · exact CallR.eval0 rfl rfl prog_slices_Index_Sint_int rfl ⟨c0, fun k hk => by simp [a_slices_Index_Sint_int, hl.len, h1 k hk, h4, h3]⟩

theorem any_contains (l : List Int) (x : Int) : (List.range l.length).any (fun i => l.getD i 0 == x) = l.contains x := by
  cases h : l.contains x with
  | true =>
    have hm : x ∈ l := by simpa using h
    obtain ⟨i, hi, rfl⟩ := List.getElem_of_mem hm
    rw [List.any_eq_true]
    exact ⟨i, by simpa using hi, by rw [getD_get hi]; simp⟩
  | false =>
    rw [List.any_eq_false]
    intro i hi
    have hi : i < l.length := by simpa using hi
    rw [getD_get hi]
    intro hx
    have : l[i] = x := by simpa using hx
    have : x ∈ l := this ▸ List.getElem_mem hi
    simp [this] at h

theorem Contains_spec {l : List Int} {v : RV} (hl : SlI l v) (hb : l.length < 2 ^ 63) (x : Int) (m : Mem) : CallR C (fnv fn_slices_Contains_Sint_int) [.r v, i64 x] m (.ret (bo (l.contains x)) m) := by
  obtain ⟨c1, k1⟩ := Index_spec hl hb x { h := m.h }
  rw [← any_contains]
  rcases idxOf_any l.length (fun i => l.getD i 0 == x) with ⟨h1, h2⟩ | ⟨h1, h2⟩
  · rw [h2]
    have e1 := eq_true h1
    exact CallR.eval0 rfl rfl prog_slices_Contains_Sint_int rfl ⟨c1, fun k hk => by
      have := k1 k hk
      generalize idxOf l.length (fun i => l.getD i 0 == x) = z at this e1
      simp [a_slices_Contains_Sint_int, this, e1]⟩
  · rw [h2]
    have e1 : (0 ≤ idxOf l.length (fun i => l.getD i 0 == x)) = False := eq_false (by omega)
    exact CallR.eval0 rfl rfl prog_slices_Contains_Sint_int rfl ⟨c1, fun k hk => by
      have := k1 k hk
      generalize idxOf l.length (fun i => l.getD i 0 == x) = z at this e1
      simp [a_slices_Contains_Sint_int, this, e1]⟩

theorem on_spec {l0 l1 : List Int} {v0 v1 : RV} (h0 : SlI l0 v0) (h1 : SlI l1 v1) (hb0 : l0.length < 2 ^ 63) (hb1 : l1.length < 2 ^ 63) (x : Int) (m : Mem) :
    CallR C (fnv fn_tally_on) [.r (.agg [v0, v1]), i64 x] m (.ret (i64 (onB l0 l1 x)) m) := by
  obtain ⟨H, hH⟩ : ∃ H, H = m.h ++ [.cells [.r v0, .r v1] ty_2_Sint 0] := ⟨_, rfl⟩
  have hc : H[m.h.length]? = some (.cells [.r v0, .r v1] ty_2_Sint 0) := by simp [hH]
  have ht : H.take m.h.length = m.h := by simp [hH]
  obtain ⟨c0, k0⟩ := Contains_spec h0 hb0 x { h := H }
  obtain ⟨c1, k1⟩ := Contains_spec h1 hb1 x { h := H }
  rw [show onB l0 l1 x = b2i (l0.contains x) + b2i (l1.contains x) from rfl]
  cases e0 : l0.contains x <;> cases e1 : l1.contains x <;> rw [e0] at k0 <;> rw [e1] at k1
  all_goals
    refine CallR.eval (m1 := { h := H }) rfl rfl prog_tally_on rfl ⟨max c0 c1 + 5, fun k hk => ?_⟩ ht (by simp)
    obtain ⟨j, rfl⟩ : ∃ j, k = j + 5 := ⟨k - 5, by omega⟩
    simp [a_tally_on, ← hH, goLoop, kn_iter, iterN, l_tally_on_0, hc, k0 _ (show c0 ≤ j + 5 by omega), k1 _ (show c1 ≤ j + 5 by omega), wk1, wk2, b2i]

/-- The votes that a member may have. -/
def votesL (ay no : Int) : List Int := (if ay < 2 ∧ no < 2 then [0] else []) ++ (if 0 < ay ∧ no < 2 then [1] else []) ++ (if 0 < no ∧ ay < 2 then [2] else [])
def slU (l : List Int) : RV := if l = [] then .nil else .sl (ints .u8 l) l.length none
theorem Sl.slU (l : List Int) : Sl (ints .u8 l) l.length (slU l) := by
  unfold T.slU
  split
  · rename_i h; subst h; exact Sl.nil
  · exact Sl.mk _ _ _
theorem onB_cases (l0 l1 : List Int) (x : Int) : onB l0 l1 x = 0 ∨ onB l0 l1 x = 1 ∨ onB l0 l1 x = 2 := by
  unfold onB b2i
  cases l0.contains x <;> cases l1.contains x <;> simp

def may (d : Div) (x : Int) : List Int := votesL (onB d.a0 d.a1 x) (onB d.n0 d.n1 x)

section
variable {d : Div} {a0 a1 n0 n1 p q : RV}
theorem votes_spec (hs : DivS d a0 a1 n0 n1 p q) (hb : Small d) (x : Int) (m : Mem) : CallR C (fnv fn_tally_Division_votes) [.r (.agg (divC d a0 a1 n0 n1 p q)), i64 x] m (.ret (.r (slU (may d x))) m) := by
  obtain ⟨H, hH⟩ : ∃ H, H = m.h ++ [.cells (rs (divC d a0 a1 n0 n1 p q)) ty_tally_Division 0] := ⟨_, rfl⟩
  have hc : H[m.h.length]? = some (.cells (rs (divC d a0 a1 n0 n1 p q)) ty_tally_Division 0) := by simp [hH]
  have ht : H.take m.h.length = m.h := by simp [hH]
  obtain ⟨c0, k0⟩ := on_spec hs.a0 hs.a1 hb.a0 hb.a1 x { h := H }
  obtain ⟨c1, k1⟩ := on_spec hs.n0 hs.n1 hb.n0 hb.n1 x { h := H }
  unfold may
  have hL : m.h.length < H.length := getElem?_lt hc
  have hLn : (H.length < m.h.length) = False := eq_false (by omega)
  rcases onB_cases d.a0 d.a1 x with e0 | e0 | e0 <;> rcases onB_cases d.n0 d.n1 x with e1 | e1 | e1 <;> rw [e0] at k0 ⊢ <;> rw [e1] at k1 ⊢
  all_goals
    refine CallR.eval rfl rfl prog_tally_Division_votes rfl ⟨max c0 c1, fun k hk => by
      simp [dn_drawF, denF, denFI, stepF, slotFree, slotOf, foot, avIdx, wrAll, pairsOk, apartL, a_tally_Division_votes, ← hH, hc, k0 k (by omega), k1 k (by omega), allR, AV.toR, repl, appendA, slCells, roomOk, fz, fzs, votesL, slU, ints, hLn] <;> rfl⟩ (by first | exact ht | (rw [List.take_append_of_le_length (by omega)]; exact ht)) (by first | (intro i hi; simp at hi; done) | (intro i hi; simp at hi; omega))
end
end Go.AM.T
/- What the functions compute (own work). -/
namespace Go.AM.T
open Go Go.AM
attribute [local simp] so_mov so_pick so_alloc so_box so_build so_slit so_load so_store so_nilc so_bin so_beq so_eqs so_eqn so_eqnl so_not so_conv so_s2b so_mkfn so_slcA so_padd so_fld so_idxA so_idxV so_idxT so_look so_mupd so_mkmap so_mksl so_ext so_app so_lenT so_lenM so_min so_max so_cpy so_clr so_mkif so_tass so_lenS so_idxS so_slc
attribute [local simp] dn_skip dn_label dn_ret dn_exit dn_scope dn_keep dn_reg dn_draw0 noSlots denE denEI stepE  sd_mov sd_pick sd_build sd_load sd_store sd_nilc sd_bin sd_beq sd_eqs sd_eqn sd_eqnl sd_not sd_conv sd_s2b sd_mkfn sd_slc sd_slcA sd_padd sd_fld sd_idxS sd_idxA sd_idxV sd_idxT sd_look sd_mupd sd_ext sd_app sd_lenS sd_lenT sd_lenM sd_min sd_max sd_mkif sd_tass sd_call sd_slit dn_seq dn_cond dn_block dn_loop kn_call denIs denI denOp wants ev eget putD binL enumFrom AV.bool? AV.int? ekeep evs evp runV fin runDefs resAll resOf tupOf unit AV.cells okV ok1 Value.oneCell' fill setN rcells rs_nil rs_cons load_own load_cons mkAgg_rs storeN jmpOut
attribute [local simp] dvL dv1t dvAt mkAgg2 dv0 dv1 dv2 dv3 dv4 dv5 dv6 dv7 dv8 dv9 dv10 dvA dvN dvAll C_fz fzr
/-- The cells of a division that is looked at. -/
def lkR (c : List RV) (P : Nat → Bool) (M : Nat → RV) : List RV := c ++ ((List.range 40).map (fun i => .lit (.bool (P i))) ++ (List.range 40).map M)
theorem lkR_len {c : List RV} (hc : c.length = 11) (P : Nat → Bool) (M : Nat → RV) : (lkR c P M).length = 91 := by simp [lkR, hc]
theorem lkR_get1 {c : List RV} (hc : c.length = 11) (P : Nat → Bool) (M : Nat → RV) {i : Nat} (hi : i < 40) : (lkR c P M)[11 + i]? = some (.lit (.bool (P i))) := by
  unfold lkR
  rw [List.getElem?_append_right (by omega), List.getElem?_append_left (by simp; omega), hc]
  simp [show 11 + i - 11 = i by omega, hi]
theorem lkR_get2 {c : List RV} (hc : c.length = 11) (P : Nat → Bool) (M : Nat → RV) {i : Nat} (hi : i < 40) : (lkR c P M)[51 + i]? = some (M i) := by
  unfold lkR
  rw [List.getElem?_append_right (by omega), List.getElem?_append_right (by simp; omega), hc]
  simp [show 51 + i - 11 - 40 = i by omega, hi]
theorem lkR_set1 {c : List RV} (hc : c.length = 11) (P : Nat → Bool) (M : Nat → RV) {i : Nat} (hi : i < 40) (b : Bool) : (lkR c P M).set (11 + i) (.lit (.bool b)) = lkR c (fun j => if j = i then b else P j) M := by
  refine List.ext_getElem? fun k => ?_
  rw [List.getElem?_set]
  by_cases h1 : k < 11
  · rw [if_neg (by omega)]; unfold lkR
    rw [List.getElem?_append_left (by omega), List.getElem?_append_left (by omega)]
  · by_cases h2 : k < 51
    · obtain ⟨j, rfl⟩ : ∃ j, k = 11 + j := ⟨k - 11, by omega⟩
      rw [lkR_get1 hc _ _ (by omega), lkR_get1 hc _ _ (by omega), lkR_len hc]
      by_cases e : j = i
      · subst e; simp; omega
      · rw [if_neg (by omega), if_neg e]
    · by_cases h3 : k < 91
      · obtain ⟨j, rfl⟩ : ∃ j, k = 51 + j := ⟨k - 51, by omega⟩
        rw [if_neg (by omega), lkR_get2 hc _ _ (by omega), lkR_get2 hc _ _ (by omega)]
      · rw [if_neg (by omega), List.getElem?_eq_none (by rw [lkR_len hc]; omega), List.getElem?_eq_none (by rw [lkR_len hc]; omega)]
theorem lkR_set2 {c : List RV} (hc : c.length = 11) (P : Nat → Bool) (M : Nat → RV) {i : Nat} (hi : i < 40) (v : RV) : (lkR c P M).set (51 + i) v = lkR c P (fun j => if j = i then v else M j) := by
  refine List.ext_getElem? fun k => ?_
  rw [List.getElem?_set]
  by_cases h1 : k < 11
  · rw [if_neg (by omega)]; unfold lkR
    rw [List.getElem?_append_left (by omega), List.getElem?_append_left (by omega)]
  · by_cases h2 : k < 51
    · obtain ⟨j, rfl⟩ : ∃ j, k = 11 + j := ⟨k - 11, by omega⟩
      rw [if_neg (by omega), lkR_get1 hc _ _ (by omega), lkR_get1 hc _ _ (by omega)]
    · by_cases h3 : k < 91
      · obtain ⟨j, rfl⟩ : ∃ j, k = 51 + j := ⟨k - 51, by omega⟩
        rw [lkR_get2 hc _ _ (by omega), lkR_get2 hc _ _ (by omega), lkR_len hc]
        by_cases e : j = i
        · subst e; simp; omega
        · rw [if_neg (by omega), if_neg e]
      · rw [if_neg (by omega), List.getElem?_eq_none (by rw [lkR_len hc]; omega), List.getElem?_eq_none (by rw [lkR_len hc]; omega)]
theorem setN_one (cs : List AV) {o : Nat} (h : o < cs.length) (v : AV) : setN cs o [v] = cs.set o v := by
  unfold setN
  rw [List.set_eq_take_append_cons_drop, if_pos h]
  simp
theorem rs_set (l : List RV) (i : Nat) (v : RV) : (rs l).set i (.r v) = rs (l.set i v) := by simp [rs, List.map_set]
theorem rs_len (l : List RV) : (rs l).length = l.length := by simp [rs]
theorem rs_get (l : List RV) (i : Nat) : (rs l)[i]? = (l[i]?).map .r := by simp [rs]
theorem lk_set1 {c : List RV} (hc : c.length = 11) (P : Nat → Bool) (M : Nat → RV) {i : Nat} (hi : i < 40) (b : Bool) : setN (rs (lkR c P M)) (11 + i) [bo b] = rs (lkR c (fun j => if j = i then b else P j) M) := by
  rw [setN_one _ (by rw [rs_len, lkR_len hc]; omega), rs_set, lkR_set1 hc _ _ hi]
theorem lk_set2 {c : List RV} (hc : c.length = 11) (P : Nat → Bool) (M : Nat → RV) {i : Nat} (hi : i < 40) (v : RV) : setN (rs (lkR c P M)) (51 + i) [.r v] = rs (lkR c P (fun j => if j = i then v else M j)) := by
  rw [setN_one _ (by rw [rs_len, lkR_len hc]; omega), rs_set, lkR_set2 hc _ _ hi]
theorem lk_take1 {c : List RV} (hc : c.length = 11) (P : Nat → Bool) (M : Nat → RV) {i : Nat} (hi : i < 40) : List.take 1 (List.drop (11 + i) (rs (lkR c P M))) = [bo (P i)] := by
  rw [List.take_one, List.head?_drop, rs_get, lkR_get1 hc _ _ hi]; rfl
theorem lk_take2 {c : List RV} (hc : c.length = 11) (P : Nat → Bool) (M : Nat → RV) {i : Nat} (hi : i < 40) : List.take 1 (List.drop (51 + i) (rs (lkR c P M))) = [.r (M i)] := by
  rw [List.take_one, List.head?_drop, rs_get, lkR_get2 hc _ _ hi]; rfl
theorem lk_zero (c : List RV) : c ++ (List.replicate 40 (.lit (.bool false)) ++ List.replicate 40 .nil) = lkR c (fun _ => false) (fun _ => .nil) := by
  unfold lkR
  have h : ∀ x : RV, List.replicate 40 x = (List.range 40).map (fun _ => x) := fun x => by rw [List.map_const']; simp
  rw [h, h]

section
variable {d : Div} {a0 a1 n0 n1 p q : RV}
theorem look_init (m : Mem) (K : Kit) : den K (.seq (.reg r_tally_Division_look_14) (.seq (.reg r_tally_Division_look_13) (.keep [1, 2, 3]))) { env := [(0, .r (.agg (divC d a0 a1 n0 n1 p q)))], m := { h := m.h, wr := [] } } =
    some (.norm, { env := [(1, .own m.h.length 0 0), (2, .own (m.h.length + 1) 0 0), (3, .own (m.h.length + 2) 0 0)], m := { h := m.h ++ [.cells (rs (divC d a0 a1 n0 n1 p q)) ty_tally_Division 0, .cells (rs z_tally_looked) ty_tally_looked 0, .cells (rs (lkR (divC d a0 a1 n0 n1 p q) (fun _ => false) (fun _ => .nil))) ty_tally_looked 0], wr := [m.h.length + 2] } }) := by
  have hdr : rs (divC d a0 a1 n0 n1 p q) ++ List.drop 11 (rs z_tally_looked) = rs (lkR (divC d a0 a1 n0 n1 p q) (fun _ => false) (fun _ => .nil)) := by
    rw [← lk_zero, z_tally_looked]
    simp [rs, divC]
  have hRl : (lkR (divC d a0 a1 n0 n1 p q) (fun _ => false) (fun _ => .nil)).length = 91 := lkR_len rfl _ _
  obtain ⟨R, hR⟩ : ∃ R, R = lkR (divC d a0 a1 n0 n1 p q) (fun _ => false) (fun _ => .nil) := ⟨_, rfl⟩
  rw [← hR] at hdr hRl ⊢
  have hZl : z_tally_looked.length = 91 := rfl
  obtain ⟨Z, hZ⟩ : ∃ Z, Z = z_tally_looked := ⟨_, rfl⟩
  rw [← hZ] at hdr hZl ⊢
  have hZd : List.drop 91 (rs Z) = [] := List.drop_eq_nil_of_le (by rw [rs_len]; omega)
  have hdl : (divC d a0 a1 n0 n1 p q).length = 11 := rfl
  simp [← hZ, hdr, rs_len, hZl, hRl, setN, hZd, hdl]
end

/-- What a heap holds while a division is looked at. -/
structure HL (m : Mem) (c : List RV) (H : List Blk) (W : List Nat) (P : Nat → Bool) (M : Nat → RV) : Prop where
  div : H[m.h.length]? = some (.cells (rs c) ty_tally_Division 0)
  res : H[m.h.length + 1]? = some (.cells (rs z_tally_looked) ty_tally_looked 0)
  x : H[m.h.length + 2]? = some (.cells (rs (lkR c P M)) ty_tally_looked 0)
  tk : H.take m.h.length = m.h
  wr : ∀ x ∈ W, m.h.length ≤ x

section
variable {m : Mem} {c : List RV} {H : List Blk} {W : List Nat} {P : Nat → Bool} {M : Nat → RV}
theorem HL.lt (h : HL m c H W P M) : m.h.length + 2 < H.length := getElem?_lt h.x
theorem HL.push (h : HL m c H W P M) (b : Blk) : HL m c (H ++ [b]) W P M := by
  have hl := h.lt
  refine ⟨?_, ?_, ?_, ?_, h.wr⟩
  · rw [List.getElem?_append_left (by omega)]; exact h.div
  · rw [List.getElem?_append_left (by omega)]; exact h.res
  · rw [List.getElem?_append_left (by omega)]; exact h.x
  · rw [List.take_append_of_le_length (by omega)]; exact h.tk
theorem HL.wrc (h : HL m c H W P M) {x : Nat} (hx : m.h.length ≤ x) : HL m c H (x :: W) P M :=
  ⟨h.div, h.res, h.x, h.tk, fun y hy => by
    rcases List.mem_cons.1 hy with rfl | hy
    · exact hx
    · exact h.wr y hy⟩
theorem HL.set (h : HL m c H W P M) (P' : Nat → Bool) (M' : Nat → RV) : HL m c (H.set (m.h.length + 2) (.cells (rs (lkR c P' M')) ty_tally_looked 0)) W P' M' := by
  have hl := h.lt
  refine ⟨?_, ?_, ?_, ?_, h.wr⟩
  · rw [List.getElem?_set_ne (by omega)]; exact h.div
  · rw [List.getElem?_set_ne (by omega)]; exact h.res
  · exact List.getElem?_set_self (by omega)
  · rw [List.take_set_of_le (by omega)]; exact h.tk
end

/-- Who is paired. -/
def paired (l : List (Int × Int)) (i : Nat) : Bool := l.any fun p => p.1 == (i : Int) || p.2 == (i : Int)
theorem paired_snoc (l : List (Int × Int)) (p : Int × Int) (i : Nat) : paired (l ++ [p]) i = (paired l i || (p.1 == (i : Int) || p.2 == (i : Int))) := by simp [paired]

section
variable {d : Div} {a0 a1 n0 n1 p q : RV}
theorem look_pairs (hs : DivS d a0 a1 n0 n1 p q) (hb : Small d) (hp : ∀ x ∈ d.pairs, (0 ≤ x.1 ∧ x.1 < 40) ∧ (0 ≤ x.2 ∧ x.2 < 40)) (m : Mem) (M0 : Nat → RV) : ∀ (H : List Blk) (W : List Nat), HL m (divC d a0 a1 n0 n1 p q) H W (fun _ => false) M0 →
    ∀ s : St, ekeep [1, 2, 3, 10, 11, 12] s.env = [(1, .own m.h.length 0 0), (2, .own (m.h.length + 1) 0 0), (3, .own (m.h.length + 2) 0 0), (10, .r p), (11, i64 d.pairs.length), (12, i64 0)] → s.m = { h := H, wr := W } → s.defs = [] →
    ∃ s' H' W', Loop C [1, 2, 3, 10, 11, 12] l_tally_Division_look_1 s (.exit 0) s' ∧ s'.m = { h := H', wr := W' } ∧ HL m (divC d a0 a1 n0 n1 p q) H' W' (paired d.pairs) M0 ∧ s'.defs = [] ∧
      eget s'.env 1 = .own m.h.length 0 0 ∧ eget s'.env 2 = .own (m.h.length + 1) 0 0 ∧ eget s'.env 3 = .own (m.h.length + 2) 0 0 := by
  intro H W hF s he hm hd
  have key := Loop.run (C := C) (c := l_tally_Division_look_1) (live := [1, 2, 3, 10, 11, 12]) (fun k s => ∃ (j : Nat) (H : List Blk) (W : List Nat), j + k = d.pairs.length ∧
      ekeep [1, 2, 3, 10, 11, 12] s.env = [(1, .own m.h.length 0 0), (2, .own (m.h.length + 1) 0 0), (3, .own (m.h.length + 2) 0 0), (10, .r p), (11, i64 d.pairs.length), (12, i64 j)] ∧ s.m = { h := H, wr := W } ∧
      HL m (divC d a0 a1 n0 n1 p q) H W (paired (d.pairs.take j)) M0 ∧ s.defs = [])
    (fun o s' => ∃ H' W', o = .exit 0 ∧ s'.m = { h := H', wr := W' } ∧ HL m (divC d a0 a1 n0 n1 p q) H' W' (paired d.pairs) M0 ∧ s'.defs = [] ∧
      eget s'.env 1 = .own m.h.length 0 0 ∧ eget s'.env 2 = .own (m.h.length + 1) 0 0 ∧ eget s'.env 3 = .own (m.h.length + 2) 0 0) (by
    rintro k s ⟨j, H, W, hjk, he, hm, hF, hd⟩
    rw [he]
    cases k with
    | zero =>
      have hj : j = d.pairs.length := by omega
      subst hj
      rw [List.take_length] at hF
      exact ⟨.exit 0, _, .of fun K => by simp [l_tally_Division_look_1]; rfl, .inr ⟨by simp, H, W, rfl, by simp [hm], hF, by simp [hd], by simp, by simp, by simp⟩⟩
    | succ k =>
      have hj : j < d.pairs.length := by omega
      have w1 : IntKind.wrap .i64 ((j : Int) + 1) = j + 1 := by have := hb.p; rw [w64] <;> omega
      have hlt := hF.lt
      obtain ⟨hpa, hpb⟩ := hp d.pairs[j] (List.getElem_mem hj)
      obtain ⟨a, ha⟩ : ∃ a : Nat, d.pairs[j].1 = a := ⟨d.pairs[j].1.toNat, by omega⟩
      obtain ⟨b, hb'⟩ : ∃ b : Nat, d.pairs[j].2 = b := ⟨d.pairs[j].2.toNat, by omega⟩
      have la : a < 40 := by omega
      have lb : b < 40 := by omega
      have ea : ((a : Int) < 40) = True := eq_true (by omega)
      have eb : ((b : Int) < 40) = True := eq_true (by omega)
      have hX := (hF.push (.cells [i64 a, i64 b] ty_tally_Pair 0)).x
      have hX2 := ((hF.push (.cells [i64 a, i64 b] ty_tally_Pair 0)).set (fun i => decide (i = a) || paired (d.pairs.take j) i) M0).x
      have hL : (m.h.length + 2 = H.length) = False := eq_false (by omega)
      have l91 : ∀ P, (lkR (divC d a0 a1 n0 n1 p q) P M0).length = 91 := fun P => lkR_len rfl _ _
      have lp : ∀ P x, x < 40 → List.take (11 + x) (rs (lkR (divC d a0 a1 n0 n1 p q) P M0)) ++ .r (.lit (.bool true)) :: List.drop (11 + x + 1) (rs (lkR (divC d a0 a1 n0 n1 p q) P M0)) = rs (lkR (divC d a0 a1 n0 n1 p q) (fun i => decide (i = x) || P i) M0) := fun P x hx => by simpa [setN] using lk_set1 (c := divC d a0 a1 n0 n1 p q) rfl P M0 hx true
      have oa : (11 + a + 1 ≤ 91) = True := eq_true (by omega)
      have ob : (11 + b + 1 ≤ 91) = True := eq_true (by omega)
      refine ⟨.norm, _, .of fun K => by simp [l_tally_Division_look_1, hm, hs.p.at hj, load_prs hj, hj, ha, hb', hX, hX2, hL, ea, eb, l91, lp _ a la, lp _ b lb, oa, ob, rs_len, w1, dn_drawF, denF, denFI, stepF, slotFree, slotOf, foot, avIdx, wrAll, pairsOk, apartL]; rfl, .inl ⟨rfl, k, by omega, j + 1, _, _, by omega, by simp, rfl, ?_, by simp [hd]⟩⟩
      have hP : (fun i => decide (i = b) || (decide (i = a) || paired (d.pairs.take j) i)) = paired (d.pairs.take (j + 1)) := by
        funext i
        rw [List.take_succ_eq_append_getElem hj, paired_snoc, ha, hb']
        by_cases h1 : i = a <;> by_cases h2 : i = b <;> cases paired (d.pairs.take j) i <;> simp [h1, h2] <;> omega
      rw [← hP]
      refine ((((hF.push _).set _ _).wrc ?_).wrc ?_).wrc ?_ <;> omega)
  obtain ⟨o, s', h1, h2, H', W', rfl, h3, h4, h5, h6, h7, h8⟩ := key d.pairs.length s ⟨0, H, W, by omega, he, hm, by rw [show d.pairs.take 0 = [] from rfl, show paired [] = fun _ => false from funext fun i => rfl]; exact hF, hd⟩
  exact ⟨s', H', W', h1, h3, h4, h5, h6, h7, h8⟩

theorem look_members (hs : DivS d a0 a1 n0 n1 p q) (hb : Small d) (hn : 1 ≤ d.n ∧ d.n ≤ 40) (m : Mem) (P : Nat → Bool) : ∀ (H : List Blk) (W : List Nat), HL m (divC d a0 a1 n0 n1 p q) H W P (fun _ => .nil) →
    ∀ s : St, ekeep [1, 2, 3, 26, 27] s.env = [(1, .own m.h.length 0 0), (2, .own (m.h.length + 1) 0 0), (3, .own (m.h.length + 2) 0 0), (26, i64 d.n), (27, i64 0)] → s.m = { h := H, wr := W } → s.defs = [] →
    ∃ s' H' W', Loop C [1, 2, 3, 26, 27] l_tally_Division_look_0 s (.exit 2) s' ∧ s'.m = { h := H', wr := W' } ∧ HL m (divC d a0 a1 n0 n1 p q) H' W' P (fun i => if (i : Int) < d.n then slU (may d i) else .nil) ∧ s'.defs = [] ∧
      eget s'.env 2 = .own (m.h.length + 1) 0 0 ∧ eget s'.env 3 = .own (m.h.length + 2) 0 0 := by
  intro H W hF s he hm hd
  have key := Loop.run (C := C) (c := l_tally_Division_look_0) (live := [1, 2, 3, 26, 27]) (fun k s => ∃ (j : Nat) (H : List Blk) (W : List Nat), (j : Int) + k = d.n ∧
      ekeep [1, 2, 3, 26, 27] s.env = [(1, .own m.h.length 0 0), (2, .own (m.h.length + 1) 0 0), (3, .own (m.h.length + 2) 0 0), (26, i64 d.n), (27, i64 j)] ∧ s.m = { h := H, wr := W } ∧
      HL m (divC d a0 a1 n0 n1 p q) H W P (fun i => if i < j then slU (may d i) else .nil) ∧ s.defs = [])
    (fun o s' => ∃ H' W', o = .exit 2 ∧ s'.m = { h := H', wr := W' } ∧ HL m (divC d a0 a1 n0 n1 p q) H' W' P (fun i => if (i : Int) < d.n then slU (may d i) else .nil) ∧ s'.defs = [] ∧
      eget s'.env 2 = .own (m.h.length + 1) 0 0 ∧ eget s'.env 3 = .own (m.h.length + 2) 0 0) (by
    rintro k s ⟨j, H, W, hjk, he, hm, hF, hd⟩
    rw [he]
    cases k with
    | zero =>
      have hj : d.n = j := by omega
      have e1 : ((j : Int) < d.n) = False := eq_false (by omega)
      exact ⟨.exit 2, _, .of fun K => by simp [l_tally_Division_look_0, e1]; rfl, .inr ⟨by simp, H, W, rfl, by simp [hm], by rw [hj]; simpa using hF, by simp [hd], by simp, by simp⟩⟩
    | succ k =>
      have hj : (j : Int) < d.n := by omega
      have hj40 : j < 40 := by omega
      have e1 : ((j : Int) < d.n) = True := eq_true hj
      have e2 : ((j : Int) < 40) = True := eq_true (by omega)
      have w1 : IntKind.wrap .i64 ((j : Int) + 1) = j + 1 := by rw [w64] <;> omega
      have hlt := hF.lt
      have hD := hF.div
      have hX := hF.x
      obtain ⟨Mj, hMj⟩ : ∃ Mj : Nat → RV, Mj = (fun i => if i < j then slU (may d i) else .nil) := ⟨_, rfl⟩
      rw [← hMj] at hX hF
      obtain ⟨c1, k1⟩ := votes_spec hs hb j { h := H, wr := W }
      have l91 : (lkR (divC d a0 a1 n0 n1 p q) P Mj).length = 91 := lkR_len rfl _ _
      have lp : ∀ v, List.take (51 + j) (rs (lkR (divC d a0 a1 n0 n1 p q) P Mj)) ++ .r v :: List.drop (51 + j + 1) (rs (lkR (divC d a0 a1 n0 n1 p q) P Mj)) = rs (lkR (divC d a0 a1 n0 n1 p q) P (fun i => if i = j then v else Mj i)) := fun v => by simpa [setN] using lk_set2 (c := divC d a0 a1 n0 n1 p q) rfl P Mj hj40 v
      have oa : (51 + j + 1 ≤ 91) = True := eq_true (by omega)
      obtain ⟨S, hS⟩ : ∃ S, S = slU (may d j) := ⟨_, rfl⟩
      have hSc : S = .nil ∨ ∃ cs n, S = .sl cs n none := by rw [hS]; unfold slU; split <;> simp
      rw [← hS] at k1
      have hM : (fun i : Nat => if i < j + 1 then slU (may d i) else .nil) = (fun i => if i = j then S else Mj i) := by
        funext i
        rw [hMj, hS]
        by_cases h1 : i = j
        · subst h1; simp
        · by_cases h2 : i < j
          · simp [h1, h2, show i < j + 1 by omega]
          · simp [h1, h2, show ¬ i < j + 1 by omega]
      rcases hSc with rfl | ⟨cs, n, rfl⟩
      all_goals
        refine ⟨.norm, _, .ofN ⟨c1, fun n hn => by simp [l_tally_Division_look_0, hm, e1, e2, hD, hX, l91, show (divC d a0 a1 n0 n1 p q).length = 11 from rfl, lp, oa, rs_len, w1, k1 n hn]; rfl⟩, .inl ⟨rfl, k, by omega, j + 1, _, _, by omega, by simp, rfl, ?_, by simp [hd]⟩⟩
        rw [hM]
        refine ((hF.set _ _).wrc ?_) <;> omega)
  obtain ⟨o, s', h1, h2, H', W', rfl, h3, h4, h5, h6, h7⟩ := key d.n.toNat s ⟨0, H, W, by omega, he, hm, by simpa using hF, hd⟩
  exact ⟨s', H', W', h1, h3, h4, h5, h6, h7⟩
end
end Go.AM.T
/- What the functions compute (own work). -/
namespace Go.AM.T
open Go Go.AM
attribute [local simp] so_mov so_pick so_alloc so_box so_build so_slit so_load so_store so_nilc so_bin so_beq so_eqs so_eqn so_eqnl so_not so_conv so_s2b so_mkfn so_slcA so_padd so_fld so_idxA so_idxV so_idxT so_look so_mupd so_mkmap so_mksl so_ext so_app so_lenT so_lenM so_min so_max so_cpy so_clr so_mkif so_tass so_lenS so_idxS so_slc
attribute [local simp] dn_skip dn_label dn_ret dn_exit dn_scope dn_keep dn_reg dn_draw0 noSlots denE denEI stepE  sd_mov sd_pick sd_build sd_load sd_store sd_nilc sd_bin sd_beq sd_eqs sd_eqn sd_eqnl sd_not sd_conv sd_s2b sd_mkfn sd_slc sd_slcA sd_padd sd_fld sd_idxS sd_idxA sd_idxV sd_idxT sd_look sd_mupd sd_ext sd_app sd_lenS sd_lenT sd_lenM sd_min sd_max sd_mkif sd_tass sd_call sd_slit dn_seq dn_cond dn_block dn_loop kn_call denIs denI denOp wants ev eget putD binL enumFrom AV.bool? AV.int? ekeep evs evp runV fin runDefs resAll resOf tupOf unit AV.cells okV ok1 Value.oneCell' fill setN rcells rs_nil rs_cons load_own load_cons mkAgg_rs storeN jmpOut
attribute [local simp] dvL dv1t dvAt mkAgg2 dv0 dv1 dv2 dv3 dv4 dv5 dv6 dv7 dv8 dv9 dv10 dvA dvN dvAll C_fz fzr
/-- A division, looked at. -/
def lookC (d : Div) (c : List RV) : List RV := lkR c (paired d.pairs) (fun i => if (i : Int) < d.n then slU (may d i) else .nil)
section
variable {d : Div} {a0 a1 n0 n1 p q : RV}
theorem look_init' (m : Mem) (K : Kit) (rest : AC) : den K (.seq (.reg r_tally_Division_look_14) (.seq (.seq (.reg r_tally_Division_look_13) (.keep [1, 2, 3])) rest)) { env := [(0, .r (.agg (divC d a0 a1 n0 n1 p q)))], m := { h := m.h, wr := [] } } =
    den K rest { env := [(1, .own m.h.length 0 0), (2, .own (m.h.length + 1) 0 0), (3, .own (m.h.length + 2) 0 0)], m := { h := m.h ++ [.cells (rs (divC d a0 a1 n0 n1 p q)) ty_tally_Division 0, .cells (rs z_tally_looked) ty_tally_looked 0, .cells (rs (lkR (divC d a0 a1 n0 n1 p q) (fun _ => false) (fun _ => .nil))) ty_tally_looked 0], wr := [m.h.length + 2] } } := by
  have h := look_init (d := d) (a0 := a0) (a1 := a1) (n0 := n0) (n1 := n1) (p := p) (q := q) m K
  rw [dn_seq] at h ⊢
  generalize den K (.reg r_tally_Division_look_14) _ = x at h ⊢
  rcases x with _ | ⟨o, s⟩
  · cases h
  · cases o <;> simp only at h ⊢ <;> try (cases h; done)
    rw [dn_seq, h]
theorem look_spec (hs : DivS d a0 a1 n0 n1 p q) (hb : Small d) (hn : 1 ≤ d.n ∧ d.n ≤ 40) (hp : ∀ x ∈ d.pairs, (0 ≤ x.1 ∧ x.1 < 40) ∧ (0 ≤ x.2 ∧ x.2 < 40)) (m : Mem) :
    CallR C (fnv fn_tally_Division_look) [.r (.agg (divC d a0 a1 n0 n1 p q))] m (.ret (.r (.agg (lookC d (divC d a0 a1 n0 n1 p q)))) m) := by
  obtain ⟨c, hc⟩ : ∃ c, c = divC d a0 a1 n0 n1 p q := ⟨_, rfl⟩
  have hcl : c.length = 11 := by rw [hc]; rfl
  obtain ⟨H, hH⟩ : ∃ H, H = m.h ++ [.cells (rs (divC d a0 a1 n0 n1 p q)) ty_tally_Division 0, .cells (rs z_tally_looked) ty_tally_looked 0, .cells (rs (lkR (divC d a0 a1 n0 n1 p q) (fun _ => false) (fun _ => .nil))) ty_tally_looked 0] := ⟨_, rfl⟩
  have hF : HL m (divC d a0 a1 n0 n1 p q) H [m.h.length + 2] (fun _ => false) (fun _ => .nil) :=
    ⟨by simp [hH], by simp [hH], by simp [hH], by simp [hH], by simp⟩
  obtain ⟨s1, H1, W1, l1, m1, hF1, d1, e11, e12, e13⟩ := look_pairs hs hb hp m _ H _ hF { env := [(1, .own m.h.length 0 0), (2, .own (m.h.length + 1) 0 0), (3, .own (m.h.length + 2) 0 0), (10, .r p), (11, i64 d.pairs.length), (12, i64 0)], m := { h := H, wr := [m.h.length + 2] } } (by simp) rfl rfl
  obtain ⟨s2, H2, W2, l2, m2, hF2, d2, e22, e23⟩ := look_members hs hb hn m _ H1 _ hF1 { s1 with env := [(1, .own m.h.length 0 0), (2, .own (m.h.length + 1) 0 0), (3, .own (m.h.length + 2) 0 0), (26, i64 d.n), (27, i64 0)] } (by simp) m1 d1
  rw [m1] at l2
  obtain ⟨c1, k1⟩ := l1.get
  obtain ⟨c2, k2⟩ := l2.get
  have hD := hF.div
  have hD1 := hF1.div
  have hX := hF2.x
  have hR := hF2.res
  rw [show lkR (divC d a0 a1 n0 n1 p q) (paired d.pairs) (fun i => if (i : Int) < d.n then slU (may d i) else .nil) = lookC d (divC d a0 a1 n0 n1 p q) from rfl] at hX
  have lR : (lookC d (divC d a0 a1 n0 n1 p q)).length = 91 := lkR_len rfl _ _
  obtain ⟨R, hRR⟩ : ∃ R, R = lookC d (divC d a0 a1 n0 n1 p q) := ⟨_, rfl⟩
  rw [← hRR] at hX lR ⊢
  have hZl : z_tally_looked.length = 91 := rfl
  have hR1 : List.take 91 (rs R) = rs R := List.take_of_length_le (by rw [rs_len]; omega)
  obtain ⟨Z, hZ⟩ : ∃ Z, Z = z_tally_looked := ⟨_, rfl⟩
  rw [← hZ] at hR hZl
  have hZd : List.drop 91 (rs Z) = [] := List.drop_eq_nil_of_le (by rw [rs_len]; omega)
  have hlt := hF2.lt
  refine CallR.eval (m1 := { h := H2.set (m.h.length + 1) (.cells (rs R) ty_tally_looked 0), wr := (m.h.length + 1) :: W2 }) rfl rfl prog_tally_Division_look rfl ⟨max c1 c2, fun k hk => ?_⟩ (by rw [List.take_set_of_le (by simp)]; exact hF2.tk) (by
    intro x hx
    rcases List.mem_cons.1 hx with rfl | hx
    · omega
    · exact hF2.wr x hx)
  unfold runV a_tally_Division_look
  simp only [rs_nil, List.nil_append, List.append_nil, enumFrom]
  rw [look_init']
  have hR2 : List.take 91 (rs R) = rs R := hR1
  simp [← hH, hs.p.len, show (divC d a0 a1 n0 n1 p q).length = 11 from rfl, hD, k1 k (by omega), e11, e12, e13, m1, hD1, k2 k (by omega), e22, e23, m2, hX, hR, rs_len, lR, hZl, hZd, hR1, d2, List.getElem?_set_self (show m.h.length + 1 < H2.length by omega)]
end
end Go.AM.T
/- What the functions compute (own work). -/
namespace Go.AM.T
open Go Go.AM
attribute [local simp] so_mov so_pick so_alloc so_box so_build so_slit so_load so_store so_nilc so_bin so_beq so_eqs so_eqn so_eqnl so_not so_conv so_s2b so_mkfn so_slcA so_padd so_fld so_idxA so_idxV so_idxT so_look so_mupd so_mkmap so_mksl so_ext so_app so_lenT so_lenM so_min so_max so_cpy so_clr so_mkif so_tass so_lenS so_idxS so_slc
attribute [local simp] dn_skip dn_label dn_ret dn_exit dn_scope dn_keep dn_reg dn_draw0 noSlots denE denEI stepE  sd_mov sd_pick sd_build sd_load sd_store sd_nilc sd_bin sd_beq sd_eqs sd_eqn sd_eqnl sd_not sd_conv sd_s2b sd_mkfn sd_slc sd_slcA sd_padd sd_fld sd_idxS sd_idxA sd_idxV sd_idxT sd_look sd_mupd sd_ext sd_app sd_lenS sd_lenT sd_lenM sd_min sd_max sd_mkif sd_tass sd_call sd_slit dn_seq dn_cond dn_block dn_loop kn_call denIs denI denOp wants ev eget putD binL enumFrom AV.bool? AV.int? ekeep evs evp runV fin runDefs resAll resOf tupOf unit AV.cells okV ok1 Value.oneCell' fill setN rcells rs_nil rs_cons load_own load_cons mkAgg_rs storeN jmpOut
attribute [local simp] dvL dv1t dvAt mkAgg2 dv0 dv1 dv2 dv3 dv4 dv5 dv6 dv7 dv8 dv9 dv10 dvA dvN dvAll C_fz fzr
theorem may_nil (d : Div) (i : Nat) : ((may d i).length == 0) = bothB d i := by
  unfold may bothB
  rcases onB_cases d.a0 d.a1 i with e0 | e0 | e0 <;> rcases onB_cases d.n0 d.n1 i with e1 | e1 | e1 <;> rw [e0, e1] <;> rfl
theorem may_nil' (d : Div) (i : Nat) : ((may d i).length = 0) = (bothB d i = true) := by rw [← may_nil]; simp
def clashI (d : Div) : Int := match clashB d with | some i => i | none => 0
section
variable {d : Div} {a0 a1 n0 n1 p q : RV}
theorem lookC_len : (lookC d (divC d a0 a1 n0 n1 p q)).length = 91 := lkR_len rfl _ _
theorem lookC_n : List.take 1 (rs (lookC d (divC d a0 a1 n0 n1 p q))) = [i64 d.n] := rfl
theorem lookC_may {i : Nat} (hi : i < 40) (hn : (i : Int) < d.n) : List.take 1 (List.drop (51 + i) (rs (lookC d (divC d a0 a1 n0 n1 p q)))) = [.r (slU (may d i))] := by
  unfold lookC
  rw [lk_take2 rfl _ _ hi, if_pos hn]
theorem lookC_paired {i : Nat} (hi : i < 40) : List.take 1 (List.drop (11 + i) (rs (lookC d (divC d a0 a1 n0 n1 p q)))) = [bo (paired d.pairs i)] := lk_take1 rfl _ _ hi
theorem looked_clash_spec (hn : 1 ≤ d.n ∧ d.n ≤ 40) (m : Mem) : CallR C (fnv fn_tally_looked_clash) [.r (.agg (lookC d (divC d a0 a1 n0 n1 p q)))] m (.ret (.tup [i64 (clashI d), bo (clashB d).isSome]) m) := by
  have lR : (lookC d (divC d a0 a1 n0 n1 p q)).length = 91 := lookC_len
  have hRn := lookC_n (d := d) (a0 := a0) (a1 := a1) (n0 := n0) (n1 := n1) (p := p) (q := q)
  have hRm : ∀ i : Nat, i < 40 → (i : Int) < d.n → List.take 1 (List.drop (51 + i) (rs (lookC d (divC d a0 a1 n0 n1 p q)))) = [.r (slU (may d i))] := fun i => lookC_may
  obtain ⟨R, hRR⟩ : ∃ R, R = lookC d (divC d a0 a1 n0 n1 p q) := ⟨_, rfl⟩
  rw [← hRR] at lR hRn ⊢
  rw [← hRR] at hRm
  obtain ⟨H, hH⟩ : ∃ H, H = m.h ++ [.cells (rs R) ty_tally_looked 0] := ⟨_, rfl⟩
  have hc : H[m.h.length]? = some (.cells (rs R) ty_tally_looked 0) := by simp [hH]
  have ht : H.take m.h.length = m.h := by simp [hH]
  have key := Loop.run (C := C) (c := l_tally_looked_clash_0) (live := [1, 2, 3, 7, 8]) (fun k s => ∃ i : Nat, (i : Int) + k = d.n ∧ At1 [1, 2, 3, 7, 8] [(1, .own m.h.length 0 0), (2, i64 0), (3, bo false), (7, i64 d.n), (8, i64 i)] { h := H } s ∧ ∀ j, j < i → bothB d j = false)
    (fun o s => o = .exit 0 ∧ s.m = { h := H } ∧ s.defs = [] ∧ eget s.env 2 = i64 (clashI d) ∧ eget s.env 3 = bo (clashB d).isSome) (by
    rintro k s ⟨i, hik, ⟨he, hm, hd, hr⟩, hx⟩
    rw [he]
    cases k with
    | zero =>
      have e1 : ((i : Int) < d.n) = False := eq_false (by omega)
      have hcl : clashB d = none := find_none_of fun j hj => hx j (by omega)
      exact ⟨.exit 0, _, .of fun K => by simp [l_tally_looked_clash_0, e1]; rfl, .inr ⟨by simp, rfl, by simp [hm], by simp [hd], by simp [clashI, hcl], by simp [hcl]⟩⟩
    | succ k =>
      have hi : (i : Int) < d.n := by omega
      have e1 : ((i : Int) < d.n) = True := eq_true hi
      have hi40 : i < 40 := by omega
      have e2 : ((i : Int) < 40) = True := eq_true (by omega)
      have w1 : IntKind.wrap .i64 ((i : Int) + 1) = i + 1 := by rw [w64] <;> omega
      have oa : (51 + i + 1 ≤ 91) = True := eq_true (by omega)
      have hl := (Sl.slU (may d i)).len
      cases e3 : bothB d i with
      | true =>
        have e4 : (may d i).length = 0 := by rw [may_nil', e3]
        have hcl : clashB d = some i := find_some_of (by omega) hx e3
        exact ⟨.exit 0, _, .of fun K => by simp [l_tally_looked_clash_0, e1, e2, hm, hc, rs_len, lR, oa, hRm i hi40 hi, hl, e4]; rfl, .inr ⟨by simp, rfl, by simp [hm], by simp [hd], by simp [clashI, hcl], by simp [hcl]⟩⟩
      | false =>
        have e4 : ((may d i).length == 0) = false := by rw [may_nil, e3]
        have e4' : (((may d i).length : Int) == 0) = false := by
          have : (may d i).length ≠ 0 := by simpa using e4
          have : ((may d i).length : Int) ≠ 0 := by omega
          simpa using this
        exact ⟨.norm, _, .of fun K => by simp [l_tally_looked_clash_0, e1, e2, hm, hc, rs_len, lR, oa, hRm i hi40 hi, hl, -beq_eq_false_iff_ne, -Int.natCast_eq_zero, -List.length_eq_zero_iff, e4', w1]; rfl, .inl ⟨rfl, k, by omega, i + 1, by omega, ⟨by simp, by simp [hm], by simp [hd], by simp [hr]⟩, fun j hj => by
          by_cases e : j = i
          · subst e; exact e3
          · exact hx j (by omega)⟩⟩)
  obtain ⟨o, s, h1, h2, rfl, h3, h4, h5, h6⟩ := key d.n.toNat { env := [(1, .own m.h.length 0 0), (2, i64 0), (3, bo false), (7, i64 d.n), (8, i64 0)], m := { h := H } } ⟨0, by omega, ⟨by simp, rfl, rfl, rfl⟩, by simp⟩
  obtain ⟨c0, h1⟩ := h1.get
  exact CallR.eval (m1 := { h := H }) rfl rfl prog_tally_looked_clash rfl ⟨c0, fun k hk => by simp [a_tally_looked_clash, ← hH, hc, rs_len, lR, hRn, h1 k hk, h3, h4, h5, h6, fz, fzs]⟩ ht (by simp)
end
end Go.AM.T
/- What the functions compute (own work). -/
namespace Go.AM.T
open Go Go.AM
attribute [local simp] so_mov so_pick so_alloc so_box so_build so_slit so_load so_store so_nilc so_bin so_beq so_eqs so_eqn so_eqnl so_not so_conv so_s2b so_mkfn so_slcA so_padd so_fld so_idxA so_idxV so_idxT so_look so_mupd so_mkmap so_mksl so_ext so_app so_lenT so_lenM so_min so_max so_cpy so_clr so_mkif so_tass so_lenS so_idxS so_slc
attribute [local simp] dn_skip dn_label dn_ret dn_exit dn_scope dn_keep dn_reg dn_draw0 noSlots denE denEI stepE  sd_mov sd_pick sd_build sd_load sd_store sd_nilc sd_bin sd_beq sd_eqs sd_eqn sd_eqnl sd_not sd_conv sd_s2b sd_mkfn sd_slc sd_slcA sd_padd sd_fld sd_idxS sd_idxA sd_idxV sd_idxT sd_look sd_mupd sd_ext sd_app sd_lenS sd_lenT sd_lenM sd_min sd_max sd_mkif sd_tass sd_call sd_slit dn_seq dn_cond dn_block dn_loop kn_call denIs denI denOp wants ev eget putD binL enumFrom AV.bool? AV.int? ekeep evs evp runV fin runDefs resAll resOf tupOf unit AV.cells okV ok1 Value.oneCell' fill setN rcells rs_nil rs_cons load_own load_cons mkAgg_rs storeN jmpOut
attribute [local simp] dvL dv1t dvAt mkAgg2 dv0 dv1 dv2 dv3 dv4 dv5 dv6 dv7 dv8 dv9 dv10 dvA dvN dvAll C_fz fzr
theorem pairsP_ok (n : Int) : ∀ (l seen : List (Int × Int)), pairsP n (seen.flatMap fun p => [p.1, p.2]) l = pairsOk' n seen l
  | [], _ => rfl
  | p :: r, seen => by
    have ih := pairsP_ok n r (seen ++ [p])
    rw [List.flatMap_append] at ih
    have h : (!(seen.flatMap fun p => [p.1, p.2]).contains p.1 && !(seen.flatMap fun p => [p.1, p.2]).contains p.2) = seen.all (fun q => !clashP p q) := by
      rw [Bool.eq_iff_iff]
      simp only [Bool.and_eq_true, Bool.not_eq_true', List.all_eq_true, clashP]
      constructor
      · rintro ⟨h1, h2⟩ q hq
        have g1 : p.1 ∉ seen.flatMap fun p => [p.1, p.2] := by simpa using h1
        have g2 : p.2 ∉ seen.flatMap fun p => [p.1, p.2] := by simpa using h2
        simp only [List.mem_flatMap, not_exists, not_and] at g1 g2
        have g1 := g1 q hq
        have g2 := g2 q hq
        simp at g1 g2
        simp [g1, g2]
      · intro h
        constructor
        · have : p.1 ∉ seen.flatMap fun p => [p.1, p.2] := by
            simp only [List.mem_flatMap, not_exists, not_and]
            intro q hq
            have := h q hq
            simp at this ⊢
            exact ⟨this.1.1.1, this.1.1.2⟩
          simpa using this
        · have : p.2 ∉ seen.flatMap fun p => [p.1, p.2] := by
            simp only [List.mem_flatMap, not_exists, not_and]
            intro q hq
            have := h q hq
            simp at this ⊢
            exact ⟨this.1.2, this.2⟩
          simpa using this
    have e : (seen.flatMap fun p => [p.1, p.2]) ++ [p.1, p.2] = (seen.flatMap fun p => [p.1, p.2]) ++ ([p].flatMap fun p => [p.1, p.2]) := by simp
    unfold pairsP pairsOk'
    rw [← h, e, ih, Bool.and_assoc (!pairBad n p)]
theorem proxP_some {n : Int} : ∀ (l : List (Int × Int)) (S T : List Int), proxP n S l = some T → T = S ++ l.map (·.2) ∧ (∀ p ∈ l, pairBad n p = false) ∧ (l.map (·.2)).Nodup ∧ ∀ x ∈ l.map (·.2), x ∉ S
  | [], S, T, h => by simp only [proxP, Option.some.injEq] at h; subst h; simp
  | p :: r, S, T, h => by
    unfold proxP at h
    split at h
    · rename_i hc
      obtain ⟨h1, h2, h3, h4⟩ := proxP_some r _ _ h
      have hc1 : pairBad n p = false := by
        cases hb : pairBad n p with
        | false => rfl
        | true => simp [hb] at hc
      have hc2 : p.2 ∉ S := by
        intro hm
        simp [hm] at hc
      refine ⟨by rw [h1]; simp, ?_, ?_, ?_⟩
      · intro q hq
        rcases List.mem_cons.1 hq with rfl | hq
        · exact hc1
        · exact h2 q hq
      · rw [List.map_cons, List.nodup_cons]
        exact ⟨fun hm => by have := h4 _ hm; simp at this, h3⟩
      · intro x hx
        rw [List.map_cons] at hx
        rcases List.mem_cons.1 hx with rfl | hx
        · exact hc2
        · have := h4 x hx; simp at this; exact this.1
    · cases h
theorem proxP_of {n : Int} : ∀ (l : List (Int × Int)) (S : List Int), (∀ p ∈ l, pairBad n p = false) → (l.map (·.2)).Nodup → (∀ x ∈ l.map (·.2), x ∉ S) → proxP n S l = some (S ++ l.map (·.2))
  | [], S, _, _, _ => by simp [proxP]
  | p :: r, S, h1, h2, h3 => by
    rw [List.map_cons, List.nodup_cons] at h2
    unfold proxP
    have c1 : pairBad n p = false := h1 p (by simp)
    have c2 : p.2 ∉ S := h3 p.2 (by simp)
    rw [if_pos (by simp [c1, c2]), proxP_of r (S ++ [p.2]) (fun q hq => h1 q (by simp [hq])) h2.2 (fun x hx => by
      simp only [List.mem_append, List.mem_singleton, not_or]
      exact ⟨h3 x (by rw [List.map_cons]; exact List.mem_cons_of_mem _ hx), fun e => h2.1 (e ▸ hx)⟩)]
    simp
theorem proxB (n : Int) (l : List (Int × Int)) : (match proxP n [] l with | some S => (List.range l.length).all (fun i => !S.contains (l.getD i (0, 0)).1) | none => false) = proxOk n l := by
  rw [Bool.eq_iff_iff]
  constructor
  · intro h
    split at h <;> try (cases h; done)
    rename_i S hS
    obtain ⟨h1, h2, h3, _⟩ := proxP_some l [] S hS
    rw [List.nil_append] at h1
    subst h1
    rw [List.all_eq_true] at h
    refine range_all_of fun i hi => ?_
    unfold proxI
    rw [getD_get hi, h2 _ (List.getElem_mem hi)]
    simp only [Bool.not_false, Bool.true_and]
    refine range_all_of fun k hk => ?_
    unfold proxC
    rw [getD_get hi, getD_get hk]
    have hh := h k (by simpa using hk)
    rw [getD_get hk] at hh
    have hm : l[k].1 ∉ l.map (·.2) := by simpa using hh
    have g1 : l[k].1 ≠ l[i].2 := fun e => hm (by rw [e]; exact List.mem_map.2 ⟨l[i], List.getElem_mem hi, rfl⟩)
    have g2 : k ≠ i → l[k].2 ≠ l[i].2 := by
      intro hki e
      unfold List.Nodup at h3
      rw [List.pairwise_iff_getElem] at h3
      rcases (by omega : k < i ∨ i < k) with hlt | hlt
      · exact h3 k i (by simpa using hk) (by simpa using hi) hlt (by simpa using e)
      · exact h3 i k (by simpa using hi) (by simpa using hk) hlt (by simpa using e.symm)
    by_cases hki : k = i
    · subst hki; simp [g1]
    · have g2 := g2 hki; simp [g1, g2]
  · intro h
    have hI : ∀ i, (hi : i < l.length) → pairBad n l[i] = false ∧ ∀ k, (hk : k < l.length) → (k ≠ i → l[k].2 ≠ l[i].2) ∧ l[k].1 ≠ l[i].2 := by
      intro i hi
      unfold proxOk at h
      rw [List.all_eq_true] at h
      have h1 := h i (by simpa using hi)
      unfold proxI at h1
      rw [Bool.and_eq_true, getD_get hi] at h1
      refine ⟨by simpa using h1.1, fun k hk => ?_⟩
      have h2 := h1.2
      rw [List.all_eq_true] at h2
      have h3 := h2 k (by simpa using hk)
      unfold proxC at h3
      rw [getD_get hi, getD_get hk] at h3
      simp at h3
      exact ⟨fun hki => h3.1.resolve_left hki, h3.2⟩
    have hS := proxP_of (n := n) l [] (fun p hp => by
      obtain ⟨i, hi, rfl⟩ := List.getElem_of_mem hp
      exact (hI i hi).1) (by
      unfold List.Nodup
      rw [List.pairwise_iff_getElem]
      intro i j hi hj hij
      simp only [List.length_map] at hi hj
      rw [List.getElem_map, List.getElem_map]
      exact fun e => ((hI j hj).2 i hi).1 (by omega) e) (by simp)
    rw [hS]
    simp only [List.nil_append]
    refine range_all_of fun k hk => ?_
    rw [getD_get hk]
    have : l[k].1 ∉ l.map (·.2) := by
      intro hm
      obtain ⟨q, hq, e⟩ := List.mem_map.1 hm
      obtain ⟨i, hi, rfl⟩ := List.getElem_of_mem hq
      exact ((hI i hi).2 k hk).2 e.symm
    simpa using this
theorem valid_right (d : Div) : validB d = rightB d := by
  have h1 : boundB d = (pairsOk' d.n [] d.pairs && proxOk d.n d.proxies) := by
    unfold boundB
    have e := proxB d.n d.proxies
    have e2 := pairsP_ok d.n d.pairs []
    rw [← e, ← e2]; rfl
  have h2 : decide (d.rule < 3) = decide (d.rule ≤ 2) := by
    rw [decide_eq_decide]; omega
  unfold validB rightB headB listsB
  rw [h1, h2]
  cases inB d.n 1 40 <;> cases listB d.n d.a0 <;> cases listB d.n d.a1 <;> cases listB d.n d.n0 <;> cases listB d.n d.n1 <;> simp
  cases decide (d.rule ≤ 2) <;> cases inB d.need 0 40 <;> cases inB d.quorum 0 40 <;> cases (d.tie == 1 || d.tie == 2) <;> cases pairsOk' d.n [] d.pairs <;> cases proxOk d.n d.proxies <;> simp
theorem right_n {d : Div} (h : rightB d = true) : 1 ≤ d.n ∧ d.n ≤ 40 := by
  unfold rightB headB at h
  simp only [Bool.and_eq_true] at h
  have : inB d.n 1 40 = true := by simp [h]
  simpa [inB] using this
theorem pairsOk_mem {n : Int} : ∀ (l seen : List (Int × Int)), pairsOk' n seen l = true → ∀ p ∈ l, pairBad n p = false
  | [], _, _, p, hp => by simp at hp
  | x :: r, seen, h, p, hp => by
    unfold pairsOk' at h
    simp only [Bool.and_eq_true, Bool.not_eq_true'] at h
    rcases List.mem_cons.1 hp with rfl | hp
    · exact h.1.1
    · exact pairsOk_mem r _ h.2 p hp
theorem right_pairs {d : Div} (h : rightB d = true) : ∀ x ∈ d.pairs, (0 ≤ x.1 ∧ x.1 < d.n) ∧ (0 ≤ x.2 ∧ x.2 < d.n) ∧ x.1 ≠ x.2 := by
  intro x hx
  have hp : pairsOk' d.n [] d.pairs = true := by
    unfold rightB at h
    simp only [Bool.and_eq_true] at h
    exact h.1.2
  have := pairsOk_mem _ _ hp x hx
  unfold pairBad memB at this
  simp at this
  refine ⟨⟨?_, ?_⟩, ⟨?_, ?_⟩, ?_⟩ <;> omega
theorem right_pairs40 {d : Div} (h : rightB d = true) : ∀ x ∈ d.pairs, (0 ≤ x.1 ∧ x.1 < 40) ∧ (0 ≤ x.2 ∧ x.2 < 40) := by
  intro x hx
  have := right_pairs h x hx
  have := right_n h
  omega
end Go.AM.T
/- What the functions compute (own work). -/
namespace Go.AM.T
open Go Go.AM
attribute [local simp] so_mov so_pick so_alloc so_box so_build so_slit so_load so_store so_nilc so_bin so_beq so_eqs so_eqn so_eqnl so_not so_conv so_s2b so_mkfn so_slcA so_padd so_fld so_idxA so_idxV so_idxT so_look so_mupd so_mkmap so_mksl so_ext so_app so_lenT so_lenM so_min so_max so_cpy so_clr so_mkif so_tass so_lenS so_idxS so_slc
attribute [local simp] dn_skip dn_label dn_ret dn_exit dn_scope dn_keep dn_reg dn_draw0 noSlots denE denEI stepE  sd_mov sd_pick sd_build sd_load sd_store sd_nilc sd_bin sd_beq sd_eqs sd_eqn sd_eqnl sd_not sd_conv sd_s2b sd_mkfn sd_slc sd_slcA sd_padd sd_fld sd_idxS sd_idxA sd_idxV sd_idxT sd_look sd_mupd sd_ext sd_app sd_lenS sd_lenT sd_lenM sd_min sd_max sd_mkif sd_tass sd_call sd_slit dn_seq dn_cond dn_block dn_loop kn_call denIs denI denOp wants ev eget putD binL enumFrom AV.bool? AV.int? ekeep evs evp runV fin runDefs resAll resOf tupOf unit AV.cells okV ok1 Value.oneCell' fill setN rcells rs_nil rs_cons load_own load_cons mkAgg_rs storeN jmpOut
attribute [local simp] dvL dv1t dvAt mkAgg2 dv0 dv1 dv2 dv3 dv4 dv5 dv6 dv7 dv8 dv9 dv10 dvA dvN dvAll C_fz fzr

/-- What the law's copy of a list is. -/
def listV (l : List Int) : RV := .sl (ints .i64 l) l.length (if l = [] then some 0 else none)
theorem Sl.listV (l : List Int) : SlI l (listV l) := Sl.mk _ _ _
theorem fzs_rs (m : Mem) (n0 : Nat) : ∀ (l : List RV) (k : Nat), l.length < k → fzs m n0 k (rs l) = some (rs l)
  | [], k + 1, _ => rfl
  | [], 0, h => by simp at h
  | x :: l, k + 1, h => by
    have h1 : l.length < k := by simpa using h
    obtain ⟨j, rfl⟩ : ∃ j, k = j + 1 := ⟨k - 1, by omega⟩
    have ih := fzs_rs m n0 l (j + 1) h1
    simp only [rs, List.map_cons] at ih ⊢
    rw [fzs, ih]; rfl
  | x :: l, 0, h => by simp at h
theorem allR_rs : ∀ l : List RV, allR (rs l) = some l
  | [] => rfl
  | x :: l => by simp only [rs, List.map_cons, allR, AV.toR]; rw [show allR (List.map AV.r l) = some l from allR_rs l]
theorem fz_osl {m : Mem} {n0 k i g len sz : Nat} {cap : Option Nat} {cs : List RV} {t : TypeId} (hc : m.h[i]? = some (.cells (rs cs) t g)) (hi : n0 ≤ i) (hl : cs.length = len * sz) (hk : cs.length < k) :
    fz m n0 (k + 1) (.osl i g 0 len sz cap) = some (.r (.sl cs len cap)) := by
  rw [fz]
  simp only [rcells, hc, if_true]
  rw [if_neg (by omega)]
  rw [if_pos (by rw [rs_len]; omega), List.drop_zero, List.take_of_length_le (by rw [rs_len]; omega), fzs_rs _ _ _ _ hk]
  simp only [allR_rs]
theorem ints_len (k : IntKind) (l : List Int) : (ints k l).length = l.length := by simp [ints]
theorem lawlist_spec {l : List Int} {v : RV} (hl : SlI l v) (hb : l.length ≤ 45) (m : Mem) : CallR C (fnv fn_law07_list) [.r v] m (.ret (.r (listV l)) m) := by
  have hcl : ∀ m, slCells m (.r v) 1 = some (rs (ints .i64 l), l.length) := fun m => hl.cells (by rw [ints_len]; omega) m
  unfold listV
  by_cases e : l = []
  · rw [if_pos e, show ints .i64 l = [] by rw [e]; rfl]
    have e1 : l.length = 0 := by simp [e]
    exact CallR.eval0 rfl rfl prog_law07_list rfl ⟨0, fun k _ => by simp [a_law07_list, allR, repl, appendA, hcl, e1, fz, fzs]⟩
  · rw [if_neg e]
    have e1 : (l.length = 0) = False := eq_false (by simpa using e)
    have hr : roomOk l.length 8 := ⟨by omega, by omega⟩
    obtain ⟨I, hI⟩ : ∃ I, I = ints .i64 l := ⟨_, rfl⟩
    have hIl : I.length = l.length := by rw [hI, ints_len]
    rw [← hI] at hcl ⊢
    obtain ⟨n, hn⟩ : ∃ n, n = l.length := ⟨_, rfl⟩
    rw [← hn] at hcl e1 hr hIl ⊢
    have h0 : 0 < n := by
      rcases Nat.eq_zero_or_pos n with h | h
      · exact absurd h (by rw [e1]; exact id)
      · exact h
    refine CallR.eval (m1 := { h := m.h ++ [.cells (rs I) ty_int 0] }) rfl rfl prog_law07_list rfl ⟨0, fun k _ => ?_⟩ (by simp) (by simp)
    simp [a_law07_list, allR, repl, appendA, hcl, e1, hr, h0]
    exact fz_osl (t := ty_int) (k := 999999) (by simp) (by omega) (by omega) (by omega)
end Go.AM.T
/- What the functions compute (own work). -/
namespace Go.AM.T
open Go Go.AM
attribute [local simp] so_mov so_pick so_alloc so_box so_build so_slit so_load so_store so_nilc so_bin so_beq so_eqs so_eqn so_eqnl so_not so_conv so_s2b so_mkfn so_slcA so_padd so_fld so_idxA so_idxV so_idxT so_look so_mupd so_mkmap so_mksl so_ext so_app so_lenT so_lenM so_min so_max so_cpy so_clr so_mkif so_tass so_lenS so_idxS so_slc
attribute [local simp] dn_skip dn_label dn_ret dn_exit dn_scope dn_keep dn_reg dn_draw0 noSlots denE denEI stepE  sd_mov sd_pick sd_build sd_load sd_store sd_nilc sd_bin sd_beq sd_eqs sd_eqn sd_eqnl sd_not sd_conv sd_s2b sd_mkfn sd_slc sd_slcA sd_padd sd_fld sd_idxS sd_idxA sd_idxV sd_idxT sd_look sd_mupd sd_ext sd_app sd_lenS sd_lenT sd_lenM sd_min sd_max sd_mkif sd_tass sd_call sd_slit dn_seq dn_cond dn_block dn_loop kn_call denIs denI denOp wants ev eget putD binL enumFrom AV.bool? AV.int? ekeep evs evp runV fin runDefs resAll resOf tupOf unit AV.cells okV ok1 Value.oneCell' fill setN rcells rs_nil rs_cons load_own load_cons mkAgg_rs storeN jmpOut
attribute [local simp] dvL dv1t dvAt mkAgg2 dv0 dv1 dv2 dv3 dv4 dv5 dv6 dv7 dv8 dv9 dv10 dvA dvN dvAll C_fz fzr
section
variable {d : Div} {a0 a1 n0 n1 p q : RV}
theorem tClash_spec (hs : DivS d a0 a1 n0 n1 p q) (hb : Small d) (hr : 0 ≤ d.rule ∧ d.rule ≤ 255) (m : Mem) : CallR C (fnv fn_tally_Clash) [.r (.agg (divC d a0 a1 n0 n1 p q))] m
    (.ret (.tup [i64 (if rightB d then clashI d else 0), i64 (if rightB d then (if (clashB d).isSome then 0 else 7) else 1)]) m) := by
  obtain ⟨H, hH⟩ : ∃ H, H = m.h ++ [.cells (rs (divC d a0 a1 n0 n1 p q)) ty_tally_Division 0] := ⟨_, rfl⟩
  have hc : H[m.h.length]? = some (.cells (rs (divC d a0 a1 n0 n1 p q)) ty_tally_Division 0) := by simp [hH]
  have ht : H.take m.h.length = m.h := by simp [hH]
  obtain ⟨c1, k1⟩ := valid_spec hs hb hr { h := H }
  rw [valid_right] at k1
  cases e : rightB d with
  | false =>
    rw [e] at k1
    exact CallR.eval (m1 := { h := H }) rfl rfl prog_tally_Clash rfl ⟨c1, fun k hk => by simp [a_tally_Clash, ← hH, hc, k1 k hk, fz, fzs]⟩ ht (by simp)
  | true =>
    rw [e] at k1
    obtain ⟨c2, k2⟩ := look_spec hs hb (right_n e) (right_pairs40 e) { h := H }
    obtain ⟨c3, k3⟩ := looked_clash_spec (a0 := a0) (a1 := a1) (n0 := n0) (n1 := n1) (p := p) (q := q) (right_n e) { h := H }
    cases e2 : clashB d with
    | none =>
      rw [e2] at k3
      have e3 : clashI d = 0 := by simp [clashI, e2]
      rw [e3] at k3 ⊢
      exact CallR.eval (m1 := { h := H }) rfl rfl prog_tally_Clash rfl ⟨max c1 (max c2 c3), fun k hk => by simp [a_tally_Clash, ← hH, hc, k1 k (by omega), k2 k (by omega), k3 k (by omega), fz, fzs, show (divC d a0 a1 n0 n1 p q).length = 11 from rfl]⟩ ht (by simp)
    | some i =>
      rw [e2] at k3
      exact CallR.eval (m1 := { h := H }) rfl rfl prog_tally_Clash rfl ⟨max c1 (max c2 c3), fun k hk => by simp [a_tally_Clash, ← hH, hc, k1 k (by omega), k2 k (by omega), k3 k (by omega), fz, fzs, show (divC d a0 a1 n0 n1 p q).length = 11 from rfl]⟩ ht (by simp)
end
end Go.AM.T
/- What the functions compute (own work). -/
namespace Go.AM.T
open Go Go.AM
attribute [local simp] so_mov so_pick so_alloc so_box so_build so_slit so_load so_store so_nilc so_bin so_beq so_eqs so_eqn so_eqnl so_not so_conv so_s2b so_mkfn so_slcA so_padd so_fld so_idxA so_idxV so_idxT so_look so_mupd so_mkmap so_mksl so_ext so_app so_lenT so_lenM so_min so_max so_cpy so_clr so_mkif so_tass so_lenS so_idxS so_slc
attribute [local simp] dn_skip dn_label dn_ret dn_exit dn_scope dn_keep dn_reg dn_draw0 noSlots denE denEI stepE  sd_mov sd_pick sd_build sd_load sd_store sd_nilc sd_bin sd_beq sd_eqs sd_eqn sd_eqnl sd_not sd_conv sd_s2b sd_mkfn sd_slc sd_slcA sd_padd sd_fld sd_idxS sd_idxA sd_idxV sd_idxT sd_look sd_mupd sd_ext sd_app sd_lenS sd_lenT sd_lenM sd_min sd_max sd_mkif sd_tass sd_call sd_slit dn_seq dn_cond dn_block dn_loop kn_call denIs denI denOp wants ev eget putD binL enumFrom AV.bool? AV.int? ekeep evs evp runV fin runDefs resAll resOf tupOf unit AV.cells okV ok1 Value.oneCell' fill setN rcells rs_nil rs_cons load_own load_cons mkAgg_rs storeN jmpOut
attribute [local simp] dvL dv1t dvAt mkAgg2 dv0 dv1 dv2 dv3 dv4 dv5 dv6 dv7 dv8 dv9 dv10 dvA dvN dvAll C_fz fzr
/-- A division's cells while the law copies it. -/
def outC (d : Div) (x0 x1 y0 y1 pv qv : AV) : List AV := [i64 d.n, x0, x1, y0, y1, pv, qv, u8 d.rule, i64 d.need, i64 d.quorum, u8 d.tie]
/-- What a heap holds while the law copies a division. -/
structure HV (m : Mem) (c : List RV) (H : List Blk) (W : List Nat) (oc : List AV) : Prop where
  div : H[m.h.length]? = some (.cells (rs c) ty_ref07_Division 0)
  res : H[m.h.length + 1]? = some (.cells ([i64 0, .r .nil, .r .nil, .r .nil, .r .nil, .r .nil, .r .nil, u8 0, i64 0, i64 0, u8 0]) ty_tally_Division 0)
  out : H[m.h.length + 2]? = some (.cells oc ty_tally_Division 0)
  tk : H.take m.h.length = m.h
  wr : ∀ x ∈ W, m.h.length ≤ x
section
variable {m : Mem} {c : List RV} {H : List Blk} {W : List Nat} {oc : List AV}
theorem HV.lt (h : HV m c H W oc) : m.h.length + 2 < H.length := getElem?_lt h.out
theorem HV.wrc (h : HV m c H W oc) {x : Nat} (hx : m.h.length ≤ x) : HV m c H (x :: W) oc :=
  ⟨h.div, h.res, h.out, h.tk, fun y hy => by
    rcases List.mem_cons.1 hy with rfl | hy
    · exact hx
    · exact h.wr y hy⟩
theorem HV.set (h : HV m c H W oc) (oc' : List AV) : HV m c (H.set (m.h.length + 2) (.cells oc' ty_tally_Division 0)) W oc' := by
  have hl := h.lt
  refine ⟨?_, ?_, ?_, ?_, h.wr⟩
  · rw [List.getElem?_set_ne (by omega)]; exact h.div
  · rw [List.getElem?_set_ne (by omega)]; exact h.res
  · exact List.getElem?_set_self (by omega)
  · rw [List.take_set_of_le (by omega)]; exact h.tk
theorem HV.setB (h : HV m c H W oc) {B : Nat} (hB : m.h.length + 2 < B) (b : Blk) : HV m c (H.set B b) W oc := by
  refine ⟨?_, ?_, ?_, ?_, h.wr⟩
  · rw [List.getElem?_set_ne (by omega)]; exact h.div
  · rw [List.getElem?_set_ne (by omega)]; exact h.res
  · rw [List.getElem?_set_ne (by omega)]; exact h.out
  · rw [List.take_set_of_le (by omega)]; exact h.tk
theorem HV.push (h : HV m c H W oc) (b : Blk) : HV m c (H ++ [b]) W oc := by
  have hl := h.lt
  refine ⟨?_, ?_, ?_, ?_, h.wr⟩
  · rw [List.getElem?_append_left (by omega)]; exact h.div
  · rw [List.getElem?_append_left (by omega)]; exact h.res
  · rw [List.getElem?_append_left (by omega)]; exact h.out
  · rw [List.take_append_of_le_length (by omega)]; exact h.tk
end

section
variable {d : Div} {a0 a1 n0 n1 p q : RV}
theorem lawDiv_lists (hs : DivS d a0 a1 n0 n1 p q) (h0 : d.a0.length ≤ 45) (h1 : d.a1.length ≤ 45) (h2 : d.n0.length ≤ 45) (h3 : d.n1.length ≤ 45) (m : Mem) (H : List Blk) (W : List Nat)
    (hF : HV m (divC d a0 a1 n0 n1 p q) H W (outC d (.r .nil) (.r .nil) (.r .nil) (.r .nil) (.r .nil) (.r .nil))) :
    ∃ c s', (∀ k, c ≤ k → goLoop (Kn C k) [1, 2, 3, 4] l_law07_Division_2 { env := [(4, i64 0), (1, .own m.h.length 0 0), (2, .own (m.h.length + 1) 0 0), (3, .own (m.h.length + 2) 0 0)], m := { h := H, wr := W } } = some (.exit 0, s')) ∧
      HV m (divC d a0 a1 n0 n1 p q) s'.m.h s'.m.wr (outC d (.r (listV d.a0)) (.r (listV d.a1)) (.r (listV d.n0)) (.r (listV d.n1)) (.r .nil) (.r .nil)) ∧ s'.defs = [] ∧
      eget s'.env 1 = .own m.h.length 0 0 ∧ eget s'.env 2 = .own (m.h.length + 1) 0 0 ∧ eget s'.env 3 = .own (m.h.length + 2) 0 0 := by
  have hlt := hF.lt
  have hD := hF.div
  have hO := hF.out
  obtain ⟨c1, k1⟩ := lawlist_spec hs.a0 h0 { h := H }
  obtain ⟨c2, k2⟩ := lawlist_spec hs.n0 h2 { h := H }
  obtain ⟨X, hX⟩ : ∃ X, X = H.set (m.h.length + 2) (.cells (outC d (.r (listV d.a0)) (.r .nil) (.r (listV d.n0)) (.r .nil) (.r .nil) (.r .nil)) ty_tally_Division 0) := ⟨_, rfl⟩
  obtain ⟨c3, k3⟩ := lawlist_spec hs.a1 h1 { h := X }
  obtain ⟨c4, k4⟩ := lawlist_spec hs.n1 h3 { h := X }
  have hXD := (hF.set (outC d (.r (listV d.a0)) (.r .nil) (.r (listV d.n0)) (.r .nil) (.r .nil) (.r .nil))).div
  have hXO := (hF.set (outC d (.r (listV d.a0)) (.r .nil) (.r (listV d.n0)) (.r .nil) (.r .nil) (.r .nil))).out
  have hF2 := (hF.set (outC d (.r (listV d.a0)) (.r .nil) (.r (listV d.n0)) (.r .nil) (.r .nil) (.r .nil))).set (outC d (.r (listV d.a0)) (.r (listV d.a1)) (.r (listV d.n0)) (.r (listV d.n1)) (.r .nil) (.r .nil))
  rw [← hX] at hXD hXO hF2
  have hl1 : ∀ x, (H.set (m.h.length + 2) x)[m.h.length + 2]? = some x := fun x => List.getElem?_set_self (by omega)
  have hl2 : ∀ x, (X.set (m.h.length + 2) x)[m.h.length + 2]? = some x := fun x => List.getElem?_set_self (by rw [hX, List.length_set]; omega)
  simp only [outC] at hO hX hXO hF2 ⊢
  obtain ⟨I0, N0, K0, e0⟩ : ∃ I N K, listV d.a0 = .sl I N K := ⟨_, _, _, rfl⟩
  obtain ⟨I1, N1, K1, e1⟩ : ∃ I N K, listV d.a1 = .sl I N K := ⟨_, _, _, rfl⟩
  obtain ⟨I2, N2, K2, e2⟩ : ∃ I N K, listV d.n0 = .sl I N K := ⟨_, _, _, rfl⟩
  obtain ⟨I3, N3, K3, e3⟩ : ∃ I N K, listV d.n1 = .sl I N K := ⟨_, _, _, rfl⟩
  rw [e0] at k1 hX hXO hF2 ⊢
  rw [e1] at k3 hF2 ⊢
  rw [e2] at k2 hX hXO hF2 ⊢
  rw [e3] at k4 hF2 ⊢
  refine ⟨c1 + c2 + c3 + c4 + 5, _, fun k hk => by
    obtain ⟨j, rfl⟩ : ∃ j, k = j + 5 := ⟨k - 5, by omega⟩
    simp [goLoop, kn_iter, iterN, l_law07_Division_2, dn_drawF, denF, denFI, stepF, slotFree, slotOf, foot, avIdx, wrAll, pairsOk, apartL, hD, hO, hl1, hl2, ← hX, hXD, hXO, k1 (j + 5) (by omega), k2 (j + 5) (by omega), k3 (j + 5) (by omega), k4 (j + 5) (by omega), wk1, wk2]
    rfl, ?_, ?_, ?_, ?_, ?_⟩
  · refine (((hF2.wrc ?_).wrc ?_).wrc ?_).wrc ?_ <;> omega
  all_goals simp
end
end Go.AM.T
/- What the functions compute (own work). -/
namespace Go.AM.T
open Go Go.AM
attribute [local simp] so_mov so_pick so_alloc so_box so_build so_slit so_load so_store so_nilc so_bin so_beq so_eqs so_eqn so_eqnl so_not so_conv so_s2b so_mkfn so_slcA so_padd so_fld so_idxA so_idxV so_idxT so_look so_mupd so_mkmap so_mksl so_ext so_app so_lenT so_lenM so_min so_max so_cpy so_clr so_mkif so_tass so_lenS so_idxS so_slc
attribute [local simp] dn_skip dn_label dn_ret dn_exit dn_scope dn_keep dn_reg dn_draw0 noSlots denE denEI stepE  sd_mov sd_pick sd_build sd_load sd_store sd_nilc sd_bin sd_beq sd_eqs sd_eqn sd_eqnl sd_not sd_conv sd_s2b sd_mkfn sd_slc sd_slcA sd_padd sd_fld sd_idxS sd_idxA sd_idxV sd_idxT sd_look sd_mupd sd_ext sd_app sd_lenS sd_lenT sd_lenM sd_min sd_max sd_mkif sd_tass sd_call sd_slit dn_seq dn_cond dn_block dn_loop kn_call denIs denI denOp wants ev eget putD binL enumFrom AV.bool? AV.int? ekeep evs evp runV fin runDefs resAll resOf tupOf unit AV.cells okV ok1 Value.oneCell' fill setN rcells rs_nil rs_cons load_own load_cons mkAgg_rs storeN jmpOut
attribute [local simp] dvL dv1t dvAt mkAgg2 dv0 dv1 dv2 dv3 dv4 dv5 dv6 dv7 dv8 dv9 dv10 dvA dvN dvAll C_fz fzr
/-- A slice of pairs that the law grows. -/
inductive PV (H : List Blk) (L : Nat) (T : TypeId) (l : List (Int × Int)) : AV → Prop
  | nil : l = [] → PV H L T l (.r .nil)
  | osl (B g : Nat) : L + 2 < B → H[B]? = some (.cells (rs (prs l)) T g) → l ≠ [] → PV H L T l (.osl B g 0 l.length 2 none)
theorem prs_len (l : List (Int × Int)) : (prs l).length = l.length * 2 := by
  induction l with
  | nil => rfl
  | cons a l ih =>
    simp only [prs, List.flatMap_cons, List.length_append] at ih ⊢
    rw [ih]; simp; omega
theorem prs_snoc (l : List (Int × Int)) (x y : Int) : prs l ++ [.lit (.int .i64 x), .lit (.int .i64 y)] = prs (l ++ [(x, y)]) := by simp [prs]
theorem rs_append (a b : List RV) : rs a ++ rs b = rs (a ++ b) := by simp [rs]
theorem HV.wrs {m : Mem} {c : List RV} {H : List Blk} {W W' : List Nat} {oc : List AV} (h : HV m c H W oc) (hW : ∀ x ∈ W', m.h.length ≤ x) : HV m c H W' oc := ⟨h.div, h.res, h.out, h.tk, hW⟩
theorem PV.app {m : Mem} {c : List RV} {H : List Blk} {W : List Nat} {oc : List AV} {T : TypeId} {l : List (Int × Int)} {pv : AV} (hF : HV m c H W oc) (h : PV H m.h.length T l pv) (hl : l.length ≤ 100) (x y : Int) :
    ∃ B g H' W', appendA { h := H } T 2 16 pv (.r (.sl [.lit (.int .i64 x), .lit (.int .i64 y)] 1 (some 1))) = some (.osl B g 0 (l.length + 1) 2 none, { h := H', wr := W' }) ∧ (∀ x ∈ W', m.h.length + 2 < x) ∧ HV m c H' W oc ∧
      PV H' m.h.length T (l ++ [(x, y)]) (.osl B g 0 (l.length + 1) 2 none) ∧ (∀ T' l' pv', T ≠ T' → PV H m.h.length T' l' pv' → PV H' m.h.length T' l' pv') ∧ m.h.length + 2 < B := by
  have hlt := hF.lt
  have hsl : ∀ m, slCells m (.r (.sl [.lit (.int .i64 x), .lit (.int .i64 y)] 1 (some 1))) 2 = some ([i64 x, i64 y], 1) := fun m => rfl
  have hr : roomOk (l.length + 1) 16 := ⟨by omega, by omega⟩
  cases h with
  | nil e =>
    subst e
    refine ⟨H.length, 0, H ++ [.cells [i64 x, i64 y] T 0], [], ?_, by simp, hF.push _, ?_, ?_, by omega⟩
    · unfold appendA
      rw [hsl]
      simp only
      rw [if_neg (by omega), if_pos ⟨by omega, by omega⟩]
      rfl
    · have := PV.osl (H := H ++ [.cells [i64 x, i64 y] T 0]) (L := m.h.length) (T := T) (l := [] ++ [(x, y)]) H.length 0 (by omega) (by simp [prs]) (by simp)
      simpa using this
    · intro T' l' pv' _ h'
      cases h' with
      | nil e => exact .nil e
      | osl B g h1 h2 h3 => exact .osl B g h1 (by rw [List.getElem?_append_left (getElem?_lt h2)]; exact h2) h3
  | osl B g h1 h2 h3 =>
    have hB := getElem?_lt h2
    refine ⟨B, g + 1, H.set B (.cells (rs (prs (l ++ [(x, y)]))) T (g + 1)), [B], ?_, by simpa using h1, hF.setB h1 _, ?_, ?_, h1⟩
    · unfold appendA
      rw [hsl]
      simp only [h2]
      rw [if_pos ⟨trivial, trivial, trivial, by rw [rs_len, prs_len]; omega, hr⟩, if_neg (by omega), List.take_of_length_le (by rw [rs_len, prs_len]; omega), ← prs_snoc, ← rs_append]
      rfl
    · have := PV.osl (H := H.set B (.cells (rs (prs (l ++ [(x, y)]))) T (g + 1))) (L := m.h.length) (T := T) (l := l ++ [(x, y)]) B (g + 1) h1 (List.getElem?_set_self hB) (by simp)
      simpa using this
    · intro T' l' pv' hT h'
      cases h' with
      | nil e => exact .nil e
      | osl B' g' h1' h2' h3' =>
        refine .osl B' g' h1' ?_ h3'
        rw [List.getElem?_set_ne]
        · exact h2'
        · intro e
          subst e
          rw [h2] at h2'
          simp only [Option.some.injEq, Blk.cells.injEq] at h2'
          exact hT h2'.2.1

theorem PV.setO {H : List Blk} {L : Nat} {T : TypeId} {l : List (Int × Int)} {pv : AV} (h : PV H L T l pv) (b : Blk) : PV (H.set (L + 2) b) L T l pv := by
  cases h with
  | nil e => exact .nil e
  | osl B g h1 h2 h3 => exact .osl B g h1 (by rw [List.getElem?_set_ne (by omega)]; exact h2) h3
section
variable {d : Div} {a0 a1 n0 n1 p q : RV}
theorem lawDiv_pairs (hs : DivS d a0 a1 n0 n1 p q) (hl : d.pairs.length ≤ 12) (x0 x1 y0 y1 : AV) (m : Mem) (H : List Blk) (W : List Nat)
    (hF : HV m (divC d a0 a1 n0 n1 p q) H W (outC d x0 x1 y0 y1 (.r .nil) (.r .nil))) :
    ∀ s : St, ekeep [1, 2, 3, 5] s.env = [(1, .own m.h.length 0 0), (2, .own (m.h.length + 1) 0 0), (3, .own (m.h.length + 2) 0 0), (5, i64 0)] → s.m = { h := H, wr := W } → s.defs = [] →
    ∃ s' H' W' pv, Loop C [1, 2, 3, 5] l_law07_Division_1 s (.exit 2) s' ∧ s'.m = { h := H', wr := W' } ∧ HV m (divC d a0 a1 n0 n1 p q) H' W' (outC d x0 x1 y0 y1 pv (.r .nil)) ∧ PV H' m.h.length ty_tally_Pair d.pairs pv ∧ s'.defs = [] ∧
      eget s'.env 1 = .own m.h.length 0 0 ∧ eget s'.env 2 = .own (m.h.length + 1) 0 0 ∧ eget s'.env 3 = .own (m.h.length + 2) 0 0 := by
  intro s he hm hd
  have key := Loop.run (C := C) (c := l_law07_Division_1) (live := [1, 2, 3, 5]) (fun k s => ∃ (j : Nat) (H : List Blk) (W : List Nat) (pv : AV), j + k = d.pairs.length ∧
      ekeep [1, 2, 3, 5] s.env = [(1, .own m.h.length 0 0), (2, .own (m.h.length + 1) 0 0), (3, .own (m.h.length + 2) 0 0), (5, i64 j)] ∧ s.m = { h := H, wr := W } ∧
      HV m (divC d a0 a1 n0 n1 p q) H W (outC d x0 x1 y0 y1 pv (.r .nil)) ∧ PV H m.h.length ty_tally_Pair (d.pairs.take j) pv ∧ s.defs = [])
    (fun o s' => ∃ H' W' pv, o = .exit 2 ∧ s'.m = { h := H', wr := W' } ∧ HV m (divC d a0 a1 n0 n1 p q) H' W' (outC d x0 x1 y0 y1 pv (.r .nil)) ∧ PV H' m.h.length ty_tally_Pair d.pairs pv ∧ s'.defs = [] ∧
      eget s'.env 1 = .own m.h.length 0 0 ∧ eget s'.env 2 = .own (m.h.length + 1) 0 0 ∧ eget s'.env 3 = .own (m.h.length + 2) 0 0) (by
    rintro k s ⟨j, H, W, pv, hjk, he, hm, hF, hV, hd⟩
    rw [he]
    have hD := hF.div
    cases k with
    | zero =>
      have hj : j = d.pairs.length := by omega
      subst hj
      rw [List.take_length] at hV
      exact ⟨.exit 2, _, .of fun K => by simp [l_law07_Division_1, hm, hD, hs.p.len, show (divC d a0 a1 n0 n1 p q).length = 11 from rfl]; rfl, .inr ⟨by simp, H, W, pv, rfl, by simp [hm], hF, hV, by simp [hd], by simp, by simp, by simp⟩⟩
    | succ k =>
      have hj : j < d.pairs.length := by omega
      have w1 : IntKind.wrap .i64 ((j : Int) + 1) = j + 1 := by rw [w64] <;> omega
      have hO := hF.out
      simp only [outC] at hO
      obtain ⟨B, g, H', W', hA, hW', hF', hV', -, hB⟩ := hV.app hF (by simp; omega) d.pairs[j].1 d.pairs[j].2
      rw [← List.take_succ_eq_append_getElem hj] at hV'
      obtain ⟨N, hN⟩ : ∃ N, N = (List.take j d.pairs).length + 1 := ⟨_, rfl⟩
      rw [← hN] at hA hV'
      have hO' := hF'.out
      simp only [outC] at hO'
      refine ⟨.norm, _, .of fun K => by simp [l_law07_Division_1, hm, hD, hO, hs.p.len, hs.p.at hj, prs_drop hj, hj, hA, hO', w1, allR, AV.toR, repl]; rfl, .inl ⟨rfl, k, by omega, j + 1, _, _, _, by omega, by simp, rfl, (hF'.set _).wrs ?_, ?_, by simp [hd]⟩⟩
      · intro x hx
        rcases List.mem_cons.1 hx with rfl | hx
        · omega
        · rcases List.mem_append.1 hx with hx | hx
          · have := hW' x hx; omega
          · exact hF.wr x hx
      · exact hV'.setO _)
  obtain ⟨o, s', h1, h2, H', W', pv, rfl, h3, h4, h5, h6, h7, h8, h9⟩ := key d.pairs.length s ⟨0, H, W, .r .nil, by omega, he, hm, hF, .nil (by simp), hd⟩
  exact ⟨s', H', W', pv, h1, h3, h4, h5, h6, h7, h8, h9⟩
theorem lawDiv_prox (hs : DivS d a0 a1 n0 n1 p q) (hl : d.proxies.length ≤ 12) (x0 x1 y0 y1 zv : AV) (m : Mem) (H : List Blk) (W : List Nat)
    (hF : HV m (divC d a0 a1 n0 n1 p q) H W (outC d x0 x1 y0 y1 zv (.r .nil))) :
    (hZ : PV H m.h.length ty_tally_Pair d.pairs zv) → ∀ s : St, ekeep [1, 2, 3, 6] s.env = [(1, .own m.h.length 0 0), (2, .own (m.h.length + 1) 0 0), (3, .own (m.h.length + 2) 0 0), (6, i64 0)] → s.m = { h := H, wr := W } → s.defs = [] →
    ∃ s' H' W' pv, Loop C [1, 2, 3, 6] l_law07_Division_0 s (.exit 4) s' ∧ s'.m = { h := H', wr := W' } ∧ HV m (divC d a0 a1 n0 n1 p q) H' W' (outC d x0 x1 y0 y1 zv pv) ∧ PV H' m.h.length ty_tally_Proxy d.proxies pv ∧ PV H' m.h.length ty_tally_Pair d.pairs zv ∧ s'.defs = [] ∧
      eget s'.env 1 = .own m.h.length 0 0 ∧ eget s'.env 2 = .own (m.h.length + 1) 0 0 ∧ eget s'.env 3 = .own (m.h.length + 2) 0 0 := by
  intro hZ s he hm hd
  have key := Loop.run (C := C) (c := l_law07_Division_0) (live := [1, 2, 3, 6]) (fun k s => ∃ (j : Nat) (H : List Blk) (W : List Nat) (pv : AV), j + k = d.proxies.length ∧
      ekeep [1, 2, 3, 6] s.env = [(1, .own m.h.length 0 0), (2, .own (m.h.length + 1) 0 0), (3, .own (m.h.length + 2) 0 0), (6, i64 j)] ∧ s.m = { h := H, wr := W } ∧
      HV m (divC d a0 a1 n0 n1 p q) H W (outC d x0 x1 y0 y1 zv pv) ∧ PV H m.h.length ty_tally_Proxy (d.proxies.take j) pv ∧ PV H m.h.length ty_tally_Pair d.pairs zv ∧ s.defs = [])
    (fun o s' => ∃ H' W' pv, o = .exit 4 ∧ s'.m = { h := H', wr := W' } ∧ HV m (divC d a0 a1 n0 n1 p q) H' W' (outC d x0 x1 y0 y1 zv pv) ∧ PV H' m.h.length ty_tally_Proxy d.proxies pv ∧ PV H' m.h.length ty_tally_Pair d.pairs zv ∧ s'.defs = [] ∧
      eget s'.env 1 = .own m.h.length 0 0 ∧ eget s'.env 2 = .own (m.h.length + 1) 0 0 ∧ eget s'.env 3 = .own (m.h.length + 2) 0 0) (by
    rintro k s ⟨j, H, W, pv, hjk, he, hm, hF, hV, hZ, hd⟩
    rw [he]
    have hD := hF.div
    cases k with
    | zero =>
      have hj : j = d.proxies.length := by omega
      subst hj
      rw [List.take_length] at hV
      exact ⟨.exit 4, _, .of fun K => by simp [l_law07_Division_0, hm, hD, hs.q.len, show (divC d a0 a1 n0 n1 p q).length = 11 from rfl]; rfl, .inr ⟨by simp, H, W, pv, rfl, by simp [hm], hF, hV, hZ, by simp [hd], by simp, by simp, by simp⟩⟩
    | succ k =>
      have hj : j < d.proxies.length := by omega
      have w1 : IntKind.wrap .i64 ((j : Int) + 1) = j + 1 := by rw [w64] <;> omega
      have hO := hF.out
      simp only [outC] at hO
      obtain ⟨B, g, H', W', hA, hW', hF', hV', hK, hB⟩ := hV.app hF (by simp; omega) d.proxies[j].1 d.proxies[j].2
      rw [← List.take_succ_eq_append_getElem hj] at hV'
      obtain ⟨N, hN⟩ : ∃ N, N = (List.take j d.proxies).length + 1 := ⟨_, rfl⟩
      rw [← hN] at hA hV'
      have hO' := hF'.out
      simp only [outC] at hO'
      refine ⟨.norm, _, .of fun K => by simp [l_law07_Division_0, hm, hD, hO, hs.q.len, hs.q.at hj, prs_drop hj, hj, hA, hO', w1, allR, AV.toR, repl]; rfl, .inl ⟨rfl, k, by omega, j + 1, _, _, _, by omega, by simp, rfl, (hF'.set _).wrs ?_, ?_, ?_, by simp [hd]⟩⟩
      · intro x hx
        rcases List.mem_cons.1 hx with rfl | hx
        · omega
        · rcases List.mem_append.1 hx with hx | hx
          · have := hW' x hx; omega
          · exact hF.wr x hx
      · exact hV'.setO _
      · exact (hK _ _ _ (by decide) hZ).setO _)
  obtain ⟨o, s', h1, h2, H', W', pv, rfl, h3, h4, h5, h5', h6, h7, h8, h9⟩ := key d.proxies.length s ⟨0, H, W, .r .nil, by omega, he, hm, hF, .nil (by simp), hZ, hd⟩
  exact ⟨s', H', W', pv, h1, h3, h4, h5, h5', h6, h7, h8, h9⟩
end
end Go.AM.T
/- What the functions compute (own work). -/
namespace Go.AM.T
open Go Go.AM
attribute [local simp] so_mov so_pick so_alloc so_box so_build so_slit so_load so_store so_nilc so_bin so_beq so_eqs so_eqn so_eqnl so_not so_conv so_s2b so_mkfn so_slcA so_padd so_fld so_idxA so_idxV so_idxT so_look so_mupd so_mkmap so_mksl so_ext so_app so_lenT so_lenM so_min so_max so_cpy so_clr so_mkif so_tass so_lenS so_idxS so_slc
attribute [local simp] dn_skip dn_label dn_ret dn_exit dn_scope dn_keep dn_reg dn_draw0 noSlots denE denEI stepE  sd_mov sd_pick sd_build sd_load sd_store sd_nilc sd_bin sd_beq sd_eqs sd_eqn sd_eqnl sd_not sd_conv sd_s2b sd_mkfn sd_slc sd_slcA sd_padd sd_fld sd_idxS sd_idxA sd_idxV sd_idxT sd_look sd_mupd sd_ext sd_app sd_lenS sd_lenT sd_lenM sd_min sd_max sd_mkif sd_tass sd_call sd_slit dn_seq dn_cond dn_block dn_loop kn_call denIs denI denOp wants ev eget putD binL enumFrom AV.bool? AV.int? ekeep evs evp runV fin runDefs resAll resOf tupOf unit AV.cells okV ok1 Value.oneCell' fill setN rcells rs_nil rs_cons load_own load_cons mkAgg_rs storeN jmpOut
attribute [local simp] dvL dv1t dvAt mkAgg2 dv0 dv1 dv2 dv3 dv4 dv5 dv6 dv7 dv8 dv9 dv10 dvA dvN dvAll C_fz fzr
/-- The law's copy of pairs. -/
def pairV (l : List (Int × Int)) : RV := if l = [] then .nil else .sl (prs l) l.length none
theorem SlP.pairV (l : List (Int × Int)) : SlP l (pairV l) := by
  unfold T.pairV
  split
  · rename_i h; subst h; exact Sl.nil
  · exact Sl.mk _ _ _
/-- The law's copy of a division. -/
def copyC (d : Div) : List RV := divC d (listV d.a0) (listV d.a1) (listV d.n0) (listV d.n1) (pairV d.pairs) (pairV d.proxies)
theorem copyS (d : Div) : DivS d (listV d.a0) (listV d.a1) (listV d.n0) (listV d.n1) (pairV d.pairs) (pairV d.proxies) :=
  ⟨Sl.listV _, Sl.listV _, Sl.listV _, Sl.listV _, SlP.pairV _, SlP.pairV _⟩
theorem PV.fz {H : List Blk} {W : List Nat} {L : Nat} {T : TypeId} {l : List (Int × Int)} {pv : AV} (h : PV H L T l pv) (hl : l.length ≤ 12) {k : Nat} (hk : 30 ≤ k) : Go.AM.fz { h := H, wr := W } L k pv = some (.r (pairV l)) := by
  obtain ⟨k, rfl⟩ : ∃ j, k = j + 1 := ⟨k - 1, by omega⟩
  unfold pairV
  cases h with
  | nil e => rw [if_pos e]; rfl
  | osl B g h1 h2 h3 =>
    rw [if_neg h3]
    exact fz_osl (t := T) h2 (by omega) (prs_len l) (by rw [prs_len]; omega)
theorem PV.setR {H : List Blk} {L : Nat} {T : TypeId} {l : List (Int × Int)} {pv : AV} (h : PV H L T l pv) (b : Blk) : PV (H.set (L + 1) b) L T l pv := by
  cases h with
  | nil e => exact .nil e
  | osl B g h1 h2 h3 => exact .osl B g h1 (by rw [List.getElem?_set_ne (by omega)]; exact h2) h3
theorem fzs_outC {m : Mem} {n : Nat} {d : Div} {x0 x1 y0 y1 P Q : RV} {pv qv : AV} (hp : ∀ k, 30 ≤ k → Go.AM.fz m n k pv = some (.r P)) (hq : ∀ k, 30 ≤ k → Go.AM.fz m n k qv = some (.r Q)) :
    Go.AM.fz m n 1000000 (.agg (outC d (.r x0) (.r x1) (.r y0) (.r y1) pv qv)) = some (.r (.agg (divC d x0 x1 y0 y1 P Q))) := by
  have hr : ∀ k x, Go.AM.fz m n (k + 1) (.r x) = some (.r x) := fun k x => rfl
  have : fzs m n 999999 (outC d (.r x0) (.r x1) (.r y0) (.r y1) pv qv) = some (rs (divC d x0 x1 y0 y1 P Q)) := by
    unfold outC divC
    rw [fzs, hr, fzs, hr, fzs, hr, fzs, hr, fzs, hr, fzs, hp _ (by omega), fzs, hq _ (by omega), fzs, hr, fzs, hr, fzs, hr, fzs, hr, fzs]
    rfl
  rw [Go.AM.fz]
  simp only [this, mkAgg_rs]
section
variable {d : Div} {a0 a1 n0 n1 p q : RV}
theorem lawDivision_spec (hs : DivS d a0 a1 n0 n1 p q) (hf : fewB d = true) (m : Mem) : CallR C (fnv fn_law07_Division) [.r (.agg (divC d a0 a1 n0 n1 p q))] m (.ret (.r (.agg (copyC d))) m) := by
  have hl : d.a0.length ≤ 45 ∧ d.a1.length ≤ 45 ∧ d.n0.length ≤ 45 ∧ d.n1.length ≤ 45 ∧ d.pairs.length ≤ 12 ∧ d.proxies.length ≤ 12 := by
    simp [fewB, few1] at hf
    omega
  obtain ⟨l1, l2, l3, l4, l5, l6⟩ := hl
  obtain ⟨H, hH⟩ : ∃ H, H = m.h ++ [.cells (rs (divC d a0 a1 n0 n1 p q)) ty_ref07_Division 0, .cells [i64 0, .r .nil, .r .nil, .r .nil, .r .nil, .r .nil, .r .nil, u8 0, i64 0, i64 0, u8 0] ty_tally_Division 0, .cells (outC d (.r .nil) (.r .nil) (.r .nil) (.r .nil) (.r .nil) (.r .nil)) ty_tally_Division 0] := ⟨_, rfl⟩
  have hF : HV m (divC d a0 a1 n0 n1 p q) H [m.h.length + 2] (outC d (.r .nil) (.r .nil) (.r .nil) (.r .nil) (.r .nil) (.r .nil)) := ⟨by simp [hH], by simp [hH], by simp [hH], by simp [hH], by simp⟩
  obtain ⟨c1, s1, k1, hF1, d1, e11, e12, e13⟩ := lawDiv_lists hs l1 l2 l3 l4 m H _ hF
  obtain ⟨s2, H2, W2, pv, g2, m2, hF2, hP2, d2, e21, e22, e23⟩ := lawDiv_pairs hs l5 _ _ _ _ m _ _ hF1 { s1 with env := (5, i64 0) :: s1.env } (by simp [e11, e12, e13]) rfl d1
  obtain ⟨s3, H3, W3, qv, g3, m3, hF3, hP3, hQ3, d3, e31, e32, e33⟩ := lawDiv_prox hs l6 _ _ _ _ _ m _ _ hF2 hP2 { s2 with env := (6, i64 0) :: s2.env } (by simp [e21, e22, e23]) m2 d2
  rw [m2] at g3
  obtain ⟨c2, k2⟩ := g2.get
  obtain ⟨c3, k3⟩ := g3.get
  have hc := hF.div
  have hO3 := hF3.out
  have hR3 := hF3.res
  have hlt := hF3.lt
  have hsel : ∀ x, (H3.set (m.h.length + 1) x)[m.h.length + 1]? = some x := fun x => List.getElem?_set_self (by omega)
  have hz : ∀ b W, fz { h := H3.set (m.h.length + 1) b, wr := W } m.h.length 1000000 (.agg (outC d (.r (listV d.a0)) (.r (listV d.a1)) (.r (listV d.n0)) (.r (listV d.n1)) pv qv)) = some (.r (.agg (copyC d))) :=
    fun b W => fzs_outC (fun k hk => (hQ3.setR b).fz l5 hk) (fun k hk => (hP3.setR b).fz l6 hk)
  have hpc : (pv = .r .nil ∧ pairV d.pairs = .nil) ∨ ∃ B g len, pv = .osl B g 0 len 2 none := by
    cases hQ3 with
    | nil e => exact .inl ⟨rfl, by simp [pairV, e]⟩
    | osl B g h1 h2 h3 => exact .inr ⟨B, g, _, rfl⟩
  have hqc : (qv = .r .nil ∧ pairV d.proxies = .nil) ∨ ∃ B g len, qv = .osl B g 0 len 2 none := by
    cases hP3 with
    | nil e => exact .inl ⟨rfl, by simp [pairV, e]⟩
    | osl B g h1 h2 h3 => exact .inr ⟨B, g, _, rfl⟩
  obtain ⟨A0, hA0⟩ : ∃ A, A = listV d.a0 := ⟨_, rfl⟩
  obtain ⟨A1, hA1⟩ : ∃ A, A = listV d.a1 := ⟨_, rfl⟩
  obtain ⟨N0, hN0⟩ : ∃ A, A = listV d.n0 := ⟨_, rfl⟩
  obtain ⟨N1, hN1⟩ : ∃ A, A = listV d.n1 := ⟨_, rfl⟩
  rw [← hA0, ← hA1, ← hN0, ← hN1] at hO3 hz
  obtain ⟨R, hR⟩ : ∃ R, R = copyC d := ⟨_, rfl⟩
  rw [← hR] at hz ⊢
  refine CallR.eval (m1 := { h := H3.set (m.h.length + 1) (.cells (outC d (.r A0) (.r A1) (.r N0) (.r N1) pv qv) ty_tally_Division 0), wr := (m.h.length + 1) :: W3 }) rfl rfl prog_law07_Division rfl ⟨c1 + c2 + c3, fun k hk => ?_⟩ (by rw [List.take_set_of_le (by simp)]; exact hF3.tk) (by
    intro x hx
    rcases List.mem_cons.1 hx with rfl | hx
    · omega
    · exact hF3.wr x hx)
  have hRR : R = divC d A0 A1 N0 N1 (pairV d.pairs) (pairV d.proxies) := by rw [hR, hA0, hA1, hN0, hN1]; rfl
  simp only [outC] at hO3 hz hH ⊢
  rcases hpc with ⟨rfl, ep⟩ | ⟨B, g, len, rfl⟩ <;> rcases hqc with ⟨rfl, eq⟩ | ⟨B', g', len', rfl⟩
  all_goals
    simp [a_law07_Division, ← hH, hc, k1 k (by omega), e11, e12, e13, k2 k (by omega), e21, e22, e23, m2, k3 k (by omega), e31, e32, e33, m3, hO3, hR3, hsel, hz, d3, allR, AV.toR, mkAgg]
    try (rw [hRR, ep, eq]; rfl)
end
end Go.AM.T
/- What the functions compute (own work). -/
namespace Go.AM.T
open Go Go.AM
attribute [local simp] so_mov so_pick so_alloc so_box so_build so_slit so_load so_store so_nilc so_bin so_beq so_eqs so_eqn so_eqnl so_not so_conv so_s2b so_mkfn so_slcA so_padd so_fld so_idxA so_idxV so_idxT so_look so_mupd so_mkmap so_mksl so_ext so_app so_lenT so_lenM so_min so_max so_cpy so_clr so_mkif so_tass so_lenS so_idxS so_slc
attribute [local simp] dn_skip dn_label dn_ret dn_exit dn_scope dn_keep dn_reg dn_draw0 noSlots denE denEI stepE  sd_mov sd_pick sd_build sd_load sd_store sd_nilc sd_bin sd_beq sd_eqs sd_eqn sd_eqnl sd_not sd_conv sd_s2b sd_mkfn sd_slc sd_slcA sd_padd sd_fld sd_idxS sd_idxA sd_idxV sd_idxT sd_look sd_mupd sd_ext sd_app sd_lenS sd_lenT sd_lenM sd_min sd_max sd_mkif sd_tass sd_call sd_slit dn_seq dn_cond dn_block dn_loop kn_call denIs denI denOp wants ev eget putD binL enumFrom AV.bool? AV.int? ekeep evs evp runV fin runDefs resAll resOf tupOf unit AV.cells okV ok1 Value.oneCell' fill setN rcells rs_nil rs_cons load_own load_cons mkAgg_rs storeN jmpOut
attribute [local simp] dvL dv1t dvAt mkAgg2 dv0 dv1 dv2 dv3 dv4 dv5 dv6 dv7 dv8 dv9 dv10 dvA dvN dvAll C_fz fzr
def divSh : Sh := .agg [.int .i64, .agg [.sl (.int .i64), .sl (.int .i64)], .agg [.sl (.int .i64), .sl (.int .i64)], .sl (.agg [.int .i64, .int .i64]), .sl (.agg [.int .i64, .int .i64]), .int .u8, .int .i64, .int .i64, .int .u8]
theorem maxLt : maxLen < 2 ^ 63 := by decide
theorem parts_ints : ∀ (n : Nat) (xs : List RV), Parts (Has (.int .i64)) n xs → ∃ l : List Int, xs = ints .i64 l ∧ l.length = n
  | 0, xs, h => ⟨[], by simp only [Parts] at h; rw [h]; rfl, rfl⟩
  | n + 1, xs, h => by
    obtain ⟨a, b, rfl, ⟨x, rfl, _⟩, h2⟩ := h
    obtain ⟨l, rfl, e⟩ := parts_ints n b h2
    exact ⟨x :: l, rfl, by simp [e]⟩
theorem has_int {k : IntKind} {xs : List RV} (h : Has (.int k) xs) : ∃ n, xs = [.lit (.int k n)] ∧ (Lit.int k n).wf = true := by simpa [Has] using h
theorem has_pair {xs : List RV} (h : Has (.agg [.int .i64, .int .i64]) xs) : ∃ x y, xs = [.lit (.int .i64 x), .lit (.int .i64 y)] := by
  simp only [Has, HasAll] at h
  obtain ⟨a, b, rfl, ⟨x, rfl, _⟩, c, d, rfl, ⟨y, rfl, _⟩, rfl⟩ := h
  exact ⟨x, y, rfl⟩
theorem parts_prs : ∀ (n : Nat) (xs : List RV), Parts (Has (.agg [.int .i64, .int .i64])) n xs → ∃ l : List (Int × Int), xs = prs l ∧ l.length = n
  | 0, xs, h => ⟨[], by simp only [Parts] at h; rw [h]; rfl, rfl⟩
  | n + 1, xs, h => by
    obtain ⟨a, b, rfl, h1, h2⟩ := h
    obtain ⟨x, y, rfl⟩ := has_pair h1
    obtain ⟨l, rfl, e⟩ := parts_prs n b h2
    exact ⟨(x, y) :: l, rfl, by simp [e]⟩
theorem has_ints {xs : List RV} (h : Has (.sl (.int .i64)) xs) : ∃ v l, xs = [v] ∧ SlI l v ∧ l.length < 2 ^ 63 := by
  simp only [Has] at h
  rcases h with rfl | ⟨cs, len, rfl, hm, h⟩
  · exact ⟨_, [], rfl, Sl.nil, by simp⟩
  · obtain ⟨l, rfl, rfl⟩ := parts_ints _ _ h
    exact ⟨_, l, rfl, Sl.mk _ _ _, by have := maxLt; omega⟩
theorem has_prs {xs : List RV} (h : Has (.sl (.agg [.int .i64, .int .i64])) xs) : ∃ v l, xs = [v] ∧ SlP l v ∧ l.length < 2 ^ 63 := by
  unfold Has at h
  rcases h with rfl | ⟨cs, len, rfl, hm, h⟩
  · exact ⟨_, [], rfl, Sl.nil, by simp⟩
  · obtain ⟨l, rfl, rfl⟩ := parts_prs _ _ h
    exact ⟨_, l, rfl, Sl.mk _ _ _, by have := maxLt; omega⟩
theorem has_two {xs : List RV} (h : Has (.agg [.sl (.int .i64), .sl (.int .i64)]) xs) : ∃ v w l k, xs = [v, w] ∧ SlI l v ∧ l.length < 2 ^ 63 ∧ SlI k w ∧ k.length < 2 ^ 63 := by
  unfold Has HasAll HasAll HasAll at h
  obtain ⟨a, b, rfl, h1, c, e, rfl, h2, rfl⟩ := h
  obtain ⟨v, l, rfl, s1, l1⟩ := has_ints h1
  obtain ⟨w, k, rfl, s2, l2⟩ := has_ints h2
  exact ⟨v, w, l, k, rfl, s1, l1, s2, l2⟩
theorem has_div {xs : List RV} (h : Has divSh xs) : ∃ d a0 a1 n0 n1 p q, xs = divC d a0 a1 n0 n1 p q ∧ DivS d a0 a1 n0 n1 p q ∧ Small d ∧ (0 ≤ d.rule ∧ d.rule ≤ 255) := by
  unfold divSh Has HasAll HasAll HasAll HasAll HasAll HasAll HasAll HasAll HasAll HasAll at h
  obtain ⟨x0, y0, rfl, h0, x1, y1, rfl, h1, x2, y2, rfl, h2, x3, y3, rfl, h3, x4, y4, rfl, h4, x5, y5, rfl, h5, x6, y6, rfl, h6, x7, y7, rfl, h7, x8, y8, rfl, h8, rfl⟩ := h
  obtain ⟨n, rfl, w0⟩ := has_int h0
  obtain ⟨a0, a1, la0, la1, rfl, s1, b1, s2, b2⟩ := has_two h1
  obtain ⟨n0, n1, ln0, ln1, rfl, s3, b3, s4, b4⟩ := has_two h2
  obtain ⟨p, lp, rfl, s5, b5⟩ := has_prs h3
  obtain ⟨q, lq, rfl, s6, b6⟩ := has_prs h4
  obtain ⟨ru, rfl, w5⟩ := has_int h5
  obtain ⟨ne, rfl, w6⟩ := has_int h6
  obtain ⟨qu, rfl, w7⟩ := has_int h7
  obtain ⟨ti, rfl, w8⟩ := has_int h8
  refine ⟨⟨n, la0, la1, ln0, ln1, lp, lq, ru, ne, qu, ti⟩, a0, a1, n0, n1, p, q, rfl, ⟨s1, s2, s3, s4, s5, s6⟩, ⟨b1, b2, b3, b4, b5, b6⟩, ?_⟩
  have e1 : IntKind.min .u8 = 0 := by decide
  have e2 : IntKind.max .u8 = 255 := by decide
  simpa [Lit.wf, e1, e2] using w5

end Go.AM.T
/- What the functions compute (own work). -/
namespace Go.AM.T
open Go Go.AM
attribute [local simp] so_mov so_pick so_alloc so_box so_build so_slit so_load so_store so_nilc so_bin so_beq so_eqs so_eqn so_eqnl so_not so_conv so_s2b so_mkfn so_slcA so_padd so_fld so_idxA so_idxV so_idxT so_look so_mupd so_mkmap so_mksl so_ext so_app so_lenT so_lenM so_min so_max so_cpy so_clr so_mkif so_tass so_lenS so_idxS so_slc
attribute [local simp] dn_skip dn_label dn_ret dn_exit dn_scope dn_keep dn_reg dn_draw0 noSlots denE denEI stepE  sd_mov sd_pick sd_build sd_load sd_store sd_nilc sd_bin sd_beq sd_eqs sd_eqn sd_eqnl sd_not sd_conv sd_s2b sd_mkfn sd_slc sd_slcA sd_padd sd_fld sd_idxS sd_idxA sd_idxV sd_idxT sd_look sd_mupd sd_ext sd_app sd_lenS sd_lenT sd_lenM sd_min sd_max sd_mkif sd_tass sd_call sd_slit dn_seq dn_cond dn_block dn_loop kn_call denIs denI denOp wants ev eget putD binL enumFrom AV.bool? AV.int? ekeep evs evp runV fin runDefs resAll resOf tupOf unit AV.cells okV ok1 Value.oneCell' fill setN rcells rs_nil rs_cons load_own load_cons mkAgg_rs storeN jmpOut
attribute [local simp] dvL dv1t dvAt mkAgg2 dv0 dv1 dv2 dv3 dv4 dv5 dv6 dv7 dv8 dv9 dv10 dvA dvN dvAll C_fz fzr
/-- A slice that its function grows. -/
inductive GS (H : List Blk) (L : Nat) (T : TypeId) (sz : Nat) (cs : List RV) (n : Nat) : AV → Prop
  | nil : n = 0 → cs = [] → GS H L T sz cs n (.r .nil)
  | osl (B g : Nat) : L ≤ B → H[B]? = some (.cells (rs cs) T g) → 0 < n → cs.length = n * sz → GS H L T sz cs n (.osl B g 0 n sz none)
def gsV (cs : List RV) (n : Nat) : RV := if n = 0 then .nil else .sl cs n none
theorem Sl.gsV {cs : List RV} {n : Nat} (h : n = 0 → cs = []) : Sl cs n (gsV cs n) := by
  unfold Go.AM.T.gsV
  split
  · rename_i e; subst e; rw [h rfl]; exact Sl.nil
  · exact Sl.mk _ _ _
theorem GS.app {H : List Blk} {W : List Nat} {L : Nat} {T : TypeId} {sz n bytes k : Nat} {cs new : List RV} {pv : AV} {c : Option Nat} (h : GS H L T sz cs n pv) (hL : L ≤ H.length) (hk : 0 < k) (hn : new.length = k * sz) (hr : roomOk (n + k) bytes) :
    ∃ B g H' W', appendA { h := H, wr := W } T sz bytes pv (.r (.sl new k c)) = some (.osl B g 0 (n + k) sz none, { h := H', wr := W' }) ∧ (W' = W ∨ W' = B :: W) ∧ L ≤ B ∧ GS H' L T sz (cs ++ new) (n + k) (.osl B g 0 (n + k) sz none) ∧
      (H' = H ++ [.cells (rs (cs ++ new)) T 0] ∨ (H' = H.set B (.cells (rs (cs ++ new)) T g) ∧ ∃ g', H[B]? = some (.cells (rs cs) T g'))) := by
  have hsl : ∀ m, slCells m (.r (.sl new k c)) sz = some (rs new, k) := fun m => by simp only [slCells]; rw [if_pos hn]
  cases h with
  | nil e1 e2 =>
    subst e1; subst e2
    refine ⟨H.length, 0, H ++ [.cells (rs new) T 0], W, ?_, .inl rfl, hL, ?_, .inl rfl⟩
    · unfold appendA
      rw [hsl]
      simp only
      rw [if_neg (by omega), if_pos (by simpa using hr)]
      simp
    · exact GS.osl H.length 0 hL (by simp) (by omega) (by simpa using hn)
  | osl B g h1 h2 h3 h4 =>
    have hB := getElem?_lt h2
    refine ⟨B, g + 1, H.set B (.cells (rs (cs ++ new)) T (g + 1)), B :: W, ?_, .inr rfl, h1, ?_, .inr ⟨rfl, g, h2⟩⟩
    · unfold appendA
      rw [hsl]
      simp only [h2]
      rw [if_pos ⟨trivial, trivial, trivial, by rw [rs_len]; omega, hr⟩, if_neg (by omega), List.take_of_length_le (by rw [rs_len]; omega), rs_append]
    · exact GS.osl B (g + 1) h1 (List.getElem?_set_self hB) (by omega) (by rw [List.length_append, Nat.add_mul]; omega)
theorem GS.fz {H : List Blk} {W : List Nat} {L : Nat} {T : TypeId} {sz n : Nat} {cs : List RV} {pv : AV} (h : GS H L T sz cs n pv) {k : Nat} (hk : cs.length + 1 < k) : Go.AM.fz { h := H, wr := W } L k pv = some (.r (gsV cs n)) := by
  obtain ⟨k, rfl⟩ : ∃ j, k = j + 1 := ⟨k - 1, by omega⟩
  unfold Go.AM.T.gsV
  cases h with
  | nil e1 e2 => rw [if_pos e1]; rfl
  | osl B g h1 h2 h3 h4 =>
    rw [if_neg (by omega)]
    exact fz_osl (t := T) h2 h1 h4 (by omega)
/-- What lies below stays. -/
theorem GS.keep {H H' : List Blk} {B g i : Nat} {T : TypeId} {cs new : List RV} (h : H' = H ++ [.cells (rs (cs ++ new)) T 0] ∨ (H' = H.set B (.cells (rs (cs ++ new)) T g) ∧ ∃ g', H[B]? = some (.cells (rs cs) T g'))) {b : Blk} (hb : H[i]? = some b)
    (hT : ∀ ds g, b ≠ .cells ds T g) : H'[i]? = some b := by
  rcases h with rfl | ⟨rfl, g', h2⟩
  · rw [List.getElem?_append_left (getElem?_lt hb)]; exact hb
  · rw [List.getElem?_set_ne]
    · exact hb
    · intro e
      subst e
      rw [h2] at hb
      exact hT _ _ (Option.some.inj hb).symm
theorem GS.keepT {H H' : List Blk} {B g L : Nat} {T : TypeId} {cs new : List RV} (h : H' = H ++ [.cells (rs (cs ++ new)) T 0] ∨ (H' = H.set B (.cells (rs (cs ++ new)) T g) ∧ ∃ g', H[B]? = some (.cells (rs cs) T g'))) (hB : L ≤ B) (hL : L ≤ H.length) : H'.take L = H.take L ∧ H.length ≤ H'.length := by
  rcases h with rfl | ⟨rfl, g', h2⟩
  · exact ⟨List.take_append_of_le_length hL, by simp⟩
  · exact ⟨List.take_set_of_le hB, by simp⟩

/-- The doubtful members. -/
def doubtsL (d : Div) : List Int := ((List.range d.n.toNat).filter fun (i : Nat) => decide (1 < (may d i).length)).map fun (i : Nat) => (i : Int)
theorem doubtsL_len (d : Div) : (doubtsL d).length ≤ d.n.toNat := by
  unfold doubtsL
  rw [List.length_map]
  exact Nat.le_trans (List.length_filter_le _ _) (by simp)
def slI (l : List Int) : RV := gsV (ints .i64 l) l.length
theorem Sl.slI (l : List Int) : SlI l (slI l) := Sl.gsV fun h => by rw [List.length_eq_zero_iff] at h; rw [h]; rfl

section
variable {d : Div} {a0 a1 n0 n1 p q : RV}
theorem doubts_spec (hn : 1 ≤ d.n ∧ d.n ≤ 40) (m : Mem) : CallR C (fnv fn_tally_looked_doubts) [.r (.agg (lookC d (divC d a0 a1 n0 n1 p q)))] m (.ret (.r (slI (doubtsL d))) m) := by
  have lR : (lookC d (divC d a0 a1 n0 n1 p q)).length = 91 := lookC_len
  have hRn := lookC_n (d := d) (a0 := a0) (a1 := a1) (n0 := n0) (n1 := n1) (p := p) (q := q)
  have hRm : ∀ i : Nat, i < 40 → (i : Int) < d.n → List.take 1 (List.drop (51 + i) (rs (lookC d (divC d a0 a1 n0 n1 p q)))) = [.r (slU (may d i))] := fun i => lookC_may
  obtain ⟨R, hRR⟩ : ∃ R, R = lookC d (divC d a0 a1 n0 n1 p q) := ⟨_, rfl⟩
  rw [← hRR] at lR hRn ⊢
  rw [← hRR] at hRm
  obtain ⟨f, hf⟩ : ∃ f : Nat → Bool, f = fun (i : Nat) => decide (1 < (may d i).length) := ⟨_, rfl⟩
  have key := Loop.run (C := C) (c := l_tally_looked_doubts_0) (live := [1, 2, 6, 7]) (fun k s => ∃ (i : Nat) (H : List Blk) (W : List Nat) (v : AV), (i : Int) + k = d.n ∧ At1 [1, 2, 6, 7] [(1, .own m.h.length 0 0), (2, v), (6, i64 d.n), (7, i64 i)] { h := H, wr := W } s ∧
      GS H (m.h.length + 1) ty_int 1 (ints .i64 (((List.range i).filter f).map fun (i : Nat) => (i : Int))) ((List.range i).filter f).length v ∧ H[m.h.length]? = some (.cells (rs R) ty_tally_looked 0) ∧ H.take m.h.length = m.h ∧ ∀ x ∈ W, m.h.length ≤ x)
    (fun o s => ∃ (H : List Blk) (W : List Nat) (v : AV), o = .exit 0 ∧ s.m = { h := H, wr := W } ∧ s.defs = [] ∧ eget s.env 2 = v ∧ GS H (m.h.length + 1) ty_int 1 (ints .i64 (doubtsL d)) (doubtsL d).length v ∧ H.take m.h.length = m.h ∧ ∀ x ∈ W, m.h.length ≤ x) (by
    rintro k s ⟨i, H, W, v, hik, ⟨he, hm, hd, hr⟩, hG, hc, ht, hw⟩
    rw [he]
    cases k with
    | zero =>
      have e1 : ((i : Int) < d.n) = False := eq_false (by omega)
      refine ⟨.exit 0, _, .of fun K => by simp [l_tally_looked_doubts_0, e1]; rfl, .inr ⟨by simp, H, W, v, rfl, by simp [hm], by simp [hd], by simp, ?_, ht, hw⟩⟩
      have hi : d.n.toNat = i := by omega
      unfold doubtsL
      rw [hi, ← hf, List.length_map]
      exact hG
    | succ k =>
      have hi : (i : Int) < d.n := by omega
      have e1 : ((i : Int) < d.n) = True := eq_true hi
      have hi40 : i < 40 := by omega
      have e2 : ((i : Int) < 40) = True := eq_true (by omega)
      have w1 : IntKind.wrap .i64 ((i : Int) + 1) = i + 1 := by rw [w64] <;> omega
      have oa : (51 + i + 1 ≤ 91) = True := eq_true (by omega)
      have hl := (Sl.slU (may d i)).len
      have hll : m.h.length < H.length := getElem?_lt hc
      cases e3 : f i with
      | true =>
        have e4 : (1 < ((may d i).length : Int)) = True := eq_true (by rw [hf] at e3; simp at e3; omega)
        have hlen : ((List.range i).filter f).length ≤ i := Nat.le_trans (List.length_filter_le _ _) (by simp)
        obtain ⟨B, g, H', W', hA, hW', hB, hG', hK⟩ := hG.app (W := W) (new := [.lit (.int .i64 i)]) (bytes := 8) (k := 1) (c := some 1) (by omega) (by omega) rfl ⟨by omega, by omega⟩
        refine ⟨.norm, _, .of fun K => by simp [l_tally_looked_doubts_0, e1, e2, hm, hc, rs_len, lR, oa, hRm i hi40 hi, hl, e4, allR, AV.toR, repl, hA, w1]; rfl, .inl ⟨rfl, k, by omega, i + 1, H', W', _, by omega, ⟨by simp; rfl, rfl, by simp [hd], by simp [hr]⟩, ?_, ?_, ?_, ?_⟩⟩
        · rw [List.range_succ, List.filter_append, List.map_append, List.length_append]
          simp only [List.filter_cons, e3, if_true, List.filter_nil, List.map_cons, List.map_nil, List.length_cons, List.length_nil]
          have : ints .i64 (((List.range i).filter f).map (fun (i : Nat) => (i : Int)) ++ [(i : Int)]) = ints .i64 (((List.range i).filter f).map fun (i : Nat) => (i : Int)) ++ [.lit (.int .i64 i)] := by simp [ints]
          rw [this]
          exact hG'
        · exact GS.keep hK hc (fun ds g h => by cases h)
        · exact (GS.keepT hK (L := m.h.length) (by omega) (by omega)).1.trans ht
        · intro x hx
          rcases hW' with rfl | rfl
          · exact hw x hx
          · rcases List.mem_cons.1 hx with rfl | hx
            · omega
            · exact hw x hx
      | false =>
        have e4 : (1 < ((may d i).length : Int)) = False := eq_false (by rw [hf] at e3; simp at e3; omega)
        refine ⟨.norm, _, .of fun K => by simp [l_tally_looked_doubts_0, e1, e2, hm, hc, rs_len, lR, oa, hRm i hi40 hi, hl, e4, w1]; rfl, .inl ⟨rfl, k, by omega, i + 1, H, W, v, by omega, ⟨by simp, by simp [hm], by simp [hd], by simp [hr]⟩, ?_, hc, ht, hw⟩⟩
        rw [List.range_succ, List.filter_append]
        rw [show List.filter f [i] = [] by simp [e3], List.append_nil]
        exact hG)
  obtain ⟨H, hH⟩ : ∃ H, H = m.h ++ [.cells (rs R) ty_tally_looked 0] := ⟨_, rfl⟩
  have hc : H[m.h.length]? = some (.cells (rs R) ty_tally_looked 0) := by simp [hH]
  have ht : H.take m.h.length = m.h := by simp [hH]
  obtain ⟨o, s, h1, h2, H', W', v, rfl, h3, h4, h5, h6, h7, h8⟩ := key d.n.toNat { env := [(1, .own m.h.length 0 0), (2, .r .nil), (6, i64 d.n), (7, i64 0)], m := { h := H } } ⟨0, H, [], .r .nil, by omega, ⟨by simp, rfl, rfl, rfl⟩, .nil rfl rfl, hc, ht, by simp⟩
  obtain ⟨c0, h1⟩ := h1.get
  have hz : fz { h := H', wr := W' } m.h.length 1000000 v = some (.r (slI (doubtsL d))) := by
    have h6' : GS H' m.h.length ty_int 1 (ints .i64 (doubtsL d)) (doubtsL d).length v := by
      cases h6 with
      | nil e1 e2 => exact .nil e1 e2
      | osl B g k1 k2 k3 k4 => exact .osl B g (by omega) k2 k3 k4
    exact h6'.fz (by rw [ints_len]; have := doubtsL_len d; omega)
  exact CallR.eval (m1 := { h := H', wr := W' }) rfl rfl prog_tally_looked_doubts rfl ⟨c0, fun k hk => by simp [a_tally_looked_doubts, ← hH, hc, rs_len, lR, hRn, h1 k hk, h3, h4, h5, hz]⟩ h7 h8
end
end Go.AM.T
/- What the functions compute (own work). -/
namespace Go.AM.T
open Go Go.AM
attribute [local simp] so_mov so_pick so_alloc so_box so_build so_slit so_load so_store so_nilc so_bin so_beq so_eqs so_eqn so_eqnl so_not so_conv so_s2b so_mkfn so_slcA so_padd so_fld so_idxA so_idxV so_idxT so_look so_mupd so_mkmap so_mksl so_ext so_app so_lenT so_lenM so_min so_max so_cpy so_clr so_mkif so_tass so_lenS so_idxS so_slc
attribute [local simp] dn_skip dn_label dn_ret dn_exit dn_scope dn_keep dn_reg dn_draw0 noSlots denE denEI stepE  sd_mov sd_pick sd_build sd_load sd_store sd_nilc sd_bin sd_beq sd_eqs sd_eqn sd_eqnl sd_not sd_conv sd_s2b sd_mkfn sd_slc sd_slcA sd_padd sd_fld sd_idxS sd_idxA sd_idxV sd_idxT sd_look sd_mupd sd_ext sd_app sd_lenS sd_lenT sd_lenM sd_min sd_max sd_mkif sd_tass sd_call sd_slit dn_seq dn_cond dn_block dn_loop kn_call denIs denI denOp wants ev eget putD binL enumFrom AV.bool? AV.int? ekeep evs evp runV fin runDefs resAll resOf tupOf unit AV.cells okV ok1 Value.oneCell' fill setN rcells rs_nil rs_cons load_own load_cons mkAgg_rs storeN jmpOut
attribute [local simp] dvL dv1t dvAt mkAgg2 dv0 dv1 dv2 dv3 dv4 dv5 dv6 dv7 dv8 dv9 dv10 dvA dvN dvAll C_fz fzr
def faultI (d : Div) : Int := if rightB d then (if (clashB d).isSome then 9 else 0) else 1
def openI (d : Div) : Int := if faultI d = 0 then (if 8 < (doubtsL d).length then 3 else 0) else faultI d
theorem faultI0 {d : Div} (h : faultI d = 0) : rightB d = true ∧ clashB d = none := by
  unfold faultI at h
  cases e : rightB d with
  | false => simp [e] at h
  | true =>
    cases e2 : clashB d with
    | none => exact ⟨rfl, rfl⟩
    | some i => simp [e, e2] at h
section
variable {d : Div} {a0 a1 n0 n1 p q : RV}
theorem begin_spec (hs : DivS d a0 a1 n0 n1 p q) (hb : Small d) (hr : 0 ≤ d.rule ∧ d.rule ≤ 255) (m : Mem) : CallR C (fnv fn_tally_begin) [.r (.agg (divC d a0 a1 n0 n1 p q))] m
    (.ret (.tup [.r (.agg (if faultI d = 0 then lookC d (divC d a0 a1 n0 n1 p q) else z_tally_looked)), i64 (faultI d)]) m) := by
  have hZl : z_tally_looked.length = 91 := rfl
  have lR : (lookC d (divC d a0 a1 n0 n1 p q)).length = 91 := lookC_len
  obtain ⟨Z, hZ⟩ : ∃ Z, Z = z_tally_looked := ⟨_, rfl⟩
  obtain ⟨R, hRR⟩ : ∃ R, R = lookC d (divC d a0 a1 n0 n1 p q) := ⟨_, rfl⟩
  obtain ⟨H, hH⟩ : ∃ H, H = m.h ++ [.cells (rs (divC d a0 a1 n0 n1 p q)) ty_tally_Division 0, .cells (rs Z) ty_tally_looked 0] := ⟨_, rfl⟩
  have hc : H[m.h.length]? = some (.cells (rs (divC d a0 a1 n0 n1 p q)) ty_tally_Division 0) := by simp [hH]
  have hc1 : H[m.h.length + 1]? = some (.cells (rs Z) ty_tally_looked 0) := by simp [hH]
  have ht : H.take m.h.length = m.h := by simp [hH]
  obtain ⟨c1, k1⟩ := valid_spec hs hb hr { h := H }
  rw [valid_right] at k1
  rw [← hZ] at hZl
  have hZt : List.take 91 (rs Z) = rs Z := List.take_of_length_le (by rw [rs_len]; omega)
  have hZd : List.drop 91 (rs Z) = [] := List.drop_eq_nil_of_le (by rw [rs_len]; omega)
  have hHl : H.length = m.h.length + 2 := by simp [hH]
  have hse : ∀ b : Blk, (H.set (m.h.length + 1) b)[m.h.length + 1]? = some b := fun b => List.getElem?_set_self (by omega)
  have hd11 : (divC d a0 a1 n0 n1 p q).length = 11 := rfl
  cases e : rightB d with
  | false =>
    rw [e] at k1
    have ef : faultI d = 1 := by simp [faultI, e]
    rw [ef, if_neg (by decide), ← hZ]
    refine CallR.eval (m1 := { h := H.set (m.h.length + 1) (.cells (rs Z) ty_tally_looked 0), wr := [m.h.length + 1] }) rfl rfl prog_tally_begin rfl ⟨c1, fun k hk => ?_⟩ (by rw [List.take_set_of_le (by omega)]; exact ht) (by simp)
    simp [a_tally_begin, ← hZ, ← hH, hc, hc1, hd11, rs_len, hZl, hZt, hZd, k1 k (by omega), fz, fzs, hse]
  | true =>
    rw [e] at k1
    obtain ⟨c2, k2⟩ := look_spec hs hb (right_n e) (right_pairs40 e) { h := H }
    rw [← hRR] at k2 lR
    have hRt : List.take 91 (rs R) = rs R := List.take_of_length_le (by rw [rs_len]; omega)
    have hRd : List.drop 91 (rs R) = [] := List.drop_eq_nil_of_le (by rw [rs_len]; omega)
    obtain ⟨c3, k3⟩ := looked_clash_spec (d := d) (a0 := a0) (a1 := a1) (n0 := n0) (n1 := n1) (p := p) (q := q) (right_n e) { h := H ++ [.cells (rs R) ty_tally_looked 0], wr := [H.length] }
    rw [← hRR] at k3
    have hg1 : (H ++ [Blk.cells (rs R) ty_tally_looked 0])[m.h.length + 1]? = some (.cells (rs Z) ty_tally_looked 0) := by rw [List.getElem?_append_left (by omega)]; exact hc1
    have hg2 : (H ++ [Blk.cells (rs R) ty_tally_looked 0])[H.length]? = some (.cells (rs R) ty_tally_looked 0) := by simp
    have hset : ∀ b b' : Blk, (H ++ [b]).set (H.length) b' = H ++ [b'] := fun b b' => by simp
    have hg0 : ∀ b : Blk, (H ++ [b])[H.length]? = some b := fun b => by simp
    have hse2 : ∀ b b' : Blk, ((H ++ [b]).set (m.h.length + 1) b')[m.h.length + 1]? = some b' := fun b b' => List.getElem?_set_self (by simp; omega)
    cases e2 : clashB d with
    | none =>
      rw [e2] at k3
      have ef : faultI d = 0 := by simp [faultI, e, e2]
      rw [ef, if_pos rfl, ← hRR]
      refine CallR.eval (m1 := { h := (H ++ [Blk.cells (rs R) ty_tally_looked 0]).set (m.h.length + 1) (.cells (rs R) ty_tally_looked 0), wr := [m.h.length + 1, H.length] }) rfl rfl prog_tally_begin rfl ⟨c1 + c2 + c3, fun k hk => ?_⟩ (by rw [List.take_set_of_le (by omega), List.take_append_of_le_length (by omega)]; exact ht) (by simp; omega)
      simp [a_tally_begin, ← hZ, ← hH, hc, hc1, hd11, rs_len, hZl, hZt, hZd, lR, hRt, hRd, hse2, hg0, hg1, hg2, hset, k1 k (by omega), k2 k (by omega), k3 k (by omega), fz, fzs]
    | some i =>
      rw [e2] at k3
      have ef : faultI d = 9 := by simp [faultI, e, e2]
      rw [ef, if_neg (by decide), ← hZ]
      refine CallR.eval (m1 := { h := (H ++ [Blk.cells (rs R) ty_tally_looked 0]).set (m.h.length + 1) (.cells (rs Z) ty_tally_looked 0), wr := [m.h.length + 1, H.length] }) rfl rfl prog_tally_begin rfl ⟨c1 + c2 + c3, fun k hk => ?_⟩ (by rw [List.take_set_of_le (by omega), List.take_append_of_le_length (by omega)]; exact ht) (by simp; omega)
      simp [a_tally_begin, ← hZ, ← hH, hc, hc1, hd11, rs_len, hZl, hZt, hZd, lR, hRt, hRd, hse2, hg0, hg1, hg2, hset, k1 k (by omega), k2 k (by omega), k3 k (by omega), fz, fzs]
end
end Go.AM.T
