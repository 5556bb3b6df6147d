/- The machine that the proofs walk by, and what the functions compute: part 6 of the common texts. No condition. (Own work.) -/
import Derived.Test.YthiiejahphkgnaaLQ5
set_option linter.unusedVariables false
set_option linter.unusedSimpArgs false
/- What the functions compute (own work). -/
namespace Go.AM.T
open Go Go.AM
attribute [local simp] so_mov so_pick so_alloc so_box so_build so_slit so_load so_store so_nilc so_bin so_beq so_eqs so_eqn so_eqnl so_not so_conv so_s2b so_mkfn so_slcA so_padd so_fld so_idxA so_idxV so_idxT so_look so_mupd so_mkmap so_mksl so_ext so_app so_lenT so_lenM so_min so_max so_cpy so_clr so_mkif so_tass so_lenS so_idxS so_slc
attribute [local simp] dn_skip dn_label dn_ret dn_exit dn_scope dn_keep dn_reg dn_draw0 noSlots denE denEI stepE  sd_mov sd_pick sd_build sd_load sd_store sd_nilc sd_bin sd_beq sd_eqs sd_eqn sd_eqnl sd_not sd_conv sd_s2b sd_mkfn sd_slc sd_slcA sd_padd sd_fld sd_idxS sd_idxA sd_idxV sd_idxT sd_look sd_mupd sd_ext sd_app sd_lenS sd_lenT sd_lenM sd_min sd_max sd_mkif sd_tass sd_call sd_slit dn_seq dn_cond dn_block dn_loop kn_call denIs denI denOp wants ev eget putD binL enumFrom AV.bool? AV.int? ekeep evs evp runV fin runDefs resAll resOf tupOf unit AV.cells okV ok1 Value.oneCell' fill setN rcells rs_nil rs_cons load_own load_cons mkAgg_rs storeN jmpOut
attribute [local simp] dvL dv1t dvAt mkAgg2 dv0 dv1 dv2 dv3 dv4 dv5 dv6 dv7 dv8 dv9 dv10 dvA dvN dvAll C_fz fzr
section
variable {d : Div} {a0 a1 n0 n1 p q : RV}
theorem Doubts_spec (hs : DivS d a0 a1 n0 n1 p q) (hb : Small d) (hr : 0 ≤ d.rule ∧ d.rule ≤ 255) (m : Mem) : CallR C (fnv fn_tally_Doubts) [.r (.agg (divC d a0 a1 n0 n1 p q))] m
    (.ret (.tup [.r (if faultI d = 0 then slI (doubtsL d) else .nil), i64 (faultI d)]) m) := by
  obtain ⟨R, hRR⟩ : ∃ R, R = (if faultI d = 0 then lookC d (divC d a0 a1 n0 n1 p q) else z_tally_looked) := ⟨_, rfl⟩
  have lR : R.length = 91 := by rw [hRR]; split <;> rfl
  obtain ⟨H, hH⟩ : ∃ H, H = m.h ++ [.cells (rs (divC d a0 a1 n0 n1 p q)) ty_tally_Division 0] := ⟨_, rfl⟩
  have hc : H[m.h.length]? = some (.cells (rs (divC d a0 a1 n0 n1 p q)) ty_tally_Division 0) := by simp [hH]
  have ht : H.take m.h.length = m.h := by simp [hH]
  have hHl : H.length = m.h.length + 1 := by simp [hH]
  have hd11 : (divC d a0 a1 n0 n1 p q).length = 11 := rfl
  obtain ⟨c1, k1⟩ := begin_spec hs hb hr { h := H }
  rw [← hRR] at k1
  have hRt : List.take 91 (rs R) = rs R := List.take_of_length_le (by rw [rs_len]; omega)
  obtain ⟨Z, hZ⟩ : ∃ Z, Z = z_tally_looked := ⟨_, rfl⟩
  have hZl : Z.length = 91 := by rw [hZ]; rfl
  have hZd : List.drop 91 (rs Z) = [] := List.drop_eq_nil_of_le (by rw [rs_len]; omega)
  have hg0 : ∀ b : Blk, (H ++ [b])[H.length]? = some b := fun b => by simp
  have hset : ∀ b b' : Blk, (H ++ [b]).set H.length b' = H ++ [b'] := fun b b' => by simp
  by_cases e : faultI d = 0
  · rw [e] at k1
    obtain ⟨e1, e2⟩ := faultI0 e
    obtain ⟨c2, k2⟩ := doubts_spec (d := d) (a0 := a0) (a1 := a1) (n0 := n0) (n1 := n1) (p := p) (q := q) (right_n e1) { h := H ++ [.cells (rs R) ty_tally_looked 0], wr := [H.length] }
    rw [if_pos e] at hRR
    rw [← hRR] at k2
    rw [if_pos e, e]
    refine CallR.eval (m1 := { h := H ++ [.cells (rs R) ty_tally_looked 0], wr := [H.length] }) rfl rfl prog_tally_Doubts rfl ⟨c1 + c2, fun k hk => ?_⟩ (by rw [List.take_append_of_le_length (by omega)]; exact ht) (by simp; omega)
    simp [a_tally_Doubts, ← hZ, ← hH, hc, hd11, rs_len, hZl, hZd, lR, hRt, hg0, hset, k1 k (by omega), k2 k (by omega), fz, fzs]
  · rw [if_neg e]
    have e' : (faultI d == 0) = false := by simpa using e
    refine CallR.eval (m1 := { h := H ++ [.cells (rs R) ty_tally_looked 0], wr := [H.length] }) rfl rfl prog_tally_Doubts rfl ⟨c1, fun k hk => ?_⟩ (by rw [List.take_append_of_le_length (by omega)]; exact ht) (by simp; omega)
    simp [a_tally_Doubts, ← hZ, ← hH, hc, hd11, rs_len, hZl, hZd, lR, hRt, hg0, hset, k1 k (by omega), e', e, fz, fzs]

theorem topen_spec (hs : DivS d a0 a1 n0 n1 p q) (hb : Small d) (hr : 0 ≤ d.rule ∧ d.rule ≤ 255) (m : Mem) : CallR C (fnv fn_tally_open) [.r (.agg (divC d a0 a1 n0 n1 p q))] m
    (.ret (.tup [.r (.agg (if openI d = 0 then lookC d (divC d a0 a1 n0 n1 p q) else z_tally_looked)), i64 (openI d)]) m) := by
  obtain ⟨R, hRR⟩ : ∃ R, R = (if faultI d = 0 then lookC d (divC d a0 a1 n0 n1 p q) else z_tally_looked) := ⟨_, rfl⟩
  have lR : R.length = 91 := by rw [hRR]; split <;> rfl
  have hRt : List.take 91 (rs R) = rs R := List.take_of_length_le (by rw [rs_len]; omega)
  have hRd : List.drop 91 (rs R) = [] := List.drop_eq_nil_of_le (by rw [rs_len]; omega)
  obtain ⟨Z, hZ⟩ : ∃ Z, Z = z_tally_looked := ⟨_, rfl⟩
  have hZl : Z.length = 91 := by rw [hZ]; rfl
  have hZt : List.take 91 (rs Z) = rs Z := List.take_of_length_le (by rw [rs_len]; omega)
  have hZd : List.drop 91 (rs Z) = [] := List.drop_eq_nil_of_le (by rw [rs_len]; omega)
  obtain ⟨H, hH⟩ : ∃ H, H = m.h ++ [.cells (rs (divC d a0 a1 n0 n1 p q)) ty_tally_Division 0, .cells (rs Z) ty_tally_looked 0] := ⟨_, rfl⟩
  have hc : H[m.h.length]? = some (.cells (rs (divC d a0 a1 n0 n1 p q)) ty_tally_Division 0) := by simp [hH]
  have hc1 : H[m.h.length + 1]? = some (.cells (rs Z) ty_tally_looked 0) := by simp [hH]
  have ht : H.take m.h.length = m.h := by simp [hH]
  have hHl : H.length = m.h.length + 2 := by simp [hH]
  have hd11 : (divC d a0 a1 n0 n1 p q).length = 11 := rfl
  obtain ⟨c1, k1⟩ := begin_spec hs hb hr { h := H }
  rw [← hRR] at k1
  have hg0 : ∀ b : Blk, (H ++ [b])[H.length]? = some b := fun b => by simp
  have hg1 : ∀ b : Blk, (H ++ [b])[m.h.length + 1]? = some (.cells (rs Z) ty_tally_looked 0) := fun b => by rw [List.getElem?_append_left (by omega)]; exact hc1
  have hset : ∀ b b' : Blk, (H ++ [b]).set H.length b' = H ++ [b'] := fun b b' => by simp
  have hse2 : ∀ b b' : Blk, ((H ++ [b]).set (m.h.length + 1) b')[m.h.length + 1]? = some b' := fun b b' => List.getElem?_set_self (by simp; omega)
  have fin : ∀ (X : List RV) (e : Int) (c : Nat), (∀ k, c ≤ k → runV (Kn C k) C.fz a_tally_open [.r (.agg (divC d a0 a1 n0 n1 p q))] m.h = some (.tup [.r (.agg X), i64 e], { h := (H ++ [Blk.cells (rs R) ty_tally_looked 0]).set (m.h.length + 1) (.cells (rs X) ty_tally_looked 0), wr := [m.h.length + 1, H.length] })) →
      CallR C (fnv fn_tally_open) [.r (.agg (divC d a0 a1 n0 n1 p q))] m (.ret (.tup [.r (.agg X), i64 e]) m) := fun X e c h =>
    CallR.eval rfl rfl prog_tally_open rfl ⟨c, fun k hk => by simpa using h k hk⟩ (by rw [List.take_set_of_le (by omega), List.take_append_of_le_length (by omega)]; exact ht) (by simp; omega)
  by_cases e : faultI d = 0
  · rw [e] at k1
    obtain ⟨e1, e2⟩ := faultI0 e
    obtain ⟨c2, k2⟩ := doubts_spec (d := d) (a0 := a0) (a1 := a1) (n0 := n0) (n1 := n1) (p := p) (q := q) (right_n e1) { h := H ++ [.cells (rs R) ty_tally_looked 0], wr := [H.length] }
    rw [if_pos e] at hRR
    rw [← hRR] at k2 ⊢
    have hl := (Sl.slI (doubtsL d)).len
    by_cases e3 : 8 < (doubtsL d).length
    · have eo : openI d = 3 := by simp [openI, e, e3]
      have e3' : (8 < ((doubtsL d).length : Int)) = True := eq_true (by omega)
      rw [eo, if_neg (by decide), ← hZ]
      refine fin Z 3 (c1 + c2) fun k hk => ?_
      simp [a_tally_open, ← hZ, ← hH, hc, hd11, rs_len, hZl, hZd, hZt, lR, hRt, hRd, hg0, hg1, hset, hse2, k1 k (by omega), k2 k (by omega), hl, e3', fz, fzs]
    · have eo : openI d = 0 := by simp [openI, e, e3]
      have e3' : (8 < ((doubtsL d).length : Int)) = False := eq_false (by omega)
      rw [eo, if_pos rfl]
      refine fin R 0 (c1 + c2) fun k hk => ?_
      simp [a_tally_open, ← hZ, ← hH, hc, hd11, rs_len, hZl, hZd, hZt, lR, hRt, hRd, hg0, hg1, hset, hse2, k1 k (by omega), k2 k (by omega), hl, e3', fz, fzs]
  · have e' : (faultI d == 0) = false := by simpa using e
    have eo : openI d = faultI d := by simp [openI, e]
    rw [eo, if_neg e]
    rw [if_neg e] at hRR
    rw [← hRR]
    refine fin R (faultI d) c1 fun k hk => ?_
    simp [a_tally_open, ← hZ, ← hH, hc, hd11, rs_len, hZl, hZd, hZt, lR, hRt, hRd, hg0, hg1, hset, hse2, k1 k (by omega), e', e, fz, fzs]
end
end Go.AM.T
/- What the functions compute (own work). -/
namespace Go.AM.T
open Go Go.AM
attribute [local simp] so_mov so_pick so_alloc so_box so_build so_slit so_load so_store so_nilc so_bin so_beq so_eqs so_eqn so_eqnl so_not so_conv so_s2b so_mkfn so_slcA so_padd so_fld so_idxA so_idxV so_idxT so_look so_mupd so_mkmap so_mksl so_ext so_app so_lenT so_lenM so_min so_max so_cpy so_clr so_mkif so_tass so_lenS so_idxS so_slc
attribute [local simp] dn_skip dn_label dn_ret dn_exit dn_scope dn_keep dn_reg dn_draw0 noSlots denE denEI stepE  sd_mov sd_pick sd_build sd_load sd_store sd_nilc sd_bin sd_beq sd_eqs sd_eqn sd_eqnl sd_not sd_conv sd_s2b sd_mkfn sd_slc sd_slcA sd_padd sd_fld sd_idxS sd_idxA sd_idxV sd_idxT sd_look sd_mupd sd_ext sd_app sd_lenS sd_lenT sd_lenM sd_min sd_max sd_mkif sd_tass sd_call sd_slit dn_seq dn_cond dn_block dn_loop kn_call denIs denI denOp wants ev eget putD binL enumFrom AV.bool? AV.int? ekeep evs evp runV fin runDefs resAll resOf tupOf unit AV.cells okV ok1 Value.oneCell' fill setN rcells rs_nil rs_cons load_own load_cons mkAgg_rs storeN jmpOut
attribute [local simp] dvL dv1t dvAt mkAgg2 dv0 dv1 dv2 dv3 dv4 dv5 dv6 dv7 dv8 dv9 dv10 dvA dvN dvAll C_fz fzr
/-- All that fit, the least one first: so many members are left. -/
def truthsFrom (d : Div) : Nat → Nat → List Int → List (List Int)
  | 0, _, t => [t]
  | r + 1, k, t => (may d k).flatMap fun v => truthsFrom d r (k + 1) (t.set k v)
def foldS {σ : Type} (step : σ → List Int → σ × Bool) : σ → List (List Int) → σ × Bool
  | s, [] => (s, true)
  | s, t :: l => if (step s t).2 then foldS step (step s t).1 l else ((step s t).1, false)
theorem foldS_cons {σ : Type} (step : σ → List Int → σ × Bool) (s : σ) (t : List Int) (l : List (List Int)) : foldS step s (t :: l) = if (step s t).2 then foldS step (step s t).1 l else ((step s t).1, false) := rfl
theorem foldS_append {σ : Type} (step : σ → List Int → σ × Bool) : ∀ (a b : List (List Int)) (s : σ), foldS step s (a ++ b) = if (foldS step s a).2 then foldS step (foldS step s a).1 b else ((foldS step s a).1, false)
  | [], b, s => by simp [foldS]
  | t :: a, b, s => by
    rw [List.cons_append, foldS_cons, foldS_cons]
    cases e : (step s t).2 with
    | true => simp only [if_true]; exact foldS_append step a b _
    | false => simp
theorem foldS_single {σ : Type} (step : σ → List Int → σ × Bool) (s : σ) (t : List Int) : foldS step s [t] = step s t := by
  unfold foldS
  cases e : (step s t).2 with
  | true => simp only [if_true, foldS]; rw [← e]
  | false => simp only [Bool.false_eq_true, if_false]; rw [← e]
def TOk (t : List Int) : Prop := t.length = 40 ∧ ∀ v ∈ t, 0 ≤ v ∧ v ≤ 2
theorem may_ok {d : Div} {x : Int} {v : Int} (h : v ∈ may d x) : 0 ≤ v ∧ v ≤ 2 := by
  unfold may votesL at h
  simp only [List.mem_append] at h
  rcases h with (h | h) | h <;> split at h <;> simp at h <;> omega
theorem TOk.set {t : List Int} (h : TOk t) {v : Int} (hv : 0 ≤ v ∧ v ≤ 2) (k : Nat) : TOk (t.set k v) := by
  refine ⟨by rw [List.length_set]; exact h.1, fun x hx => ?_⟩
  rcases List.mem_or_eq_of_mem_set hx with hx | rfl
  · exact h.2 x hx
  · exact hv

theorem foldS_al {σ : Type} {alive : σ → Bool} {step : σ → List Int → σ × Bool} (al : ∀ s t, alive (step s t).1 = (step s t).2) : ∀ (l : List (List Int)) (s : σ), alive s = true → alive (foldS step s l).1 = (foldS step s l).2
  | [], s, h => h
  | t :: l, s, h => by
    rw [foldS_cons]
    cases e : (step s t).2 with
    | true => simp only [if_true]; exact foldS_al al l _ (by rw [al, e])
    | false => simp only [Bool.false_eq_true, if_false]; rw [al, e]
theorem foldS_rk {σ : Type} {rank : σ → Nat} {step : σ → List Int → σ × Bool} (rk : ∀ s t, rank (step s t).1 ≤ rank s + 1) : ∀ (l : List (List Int)) (s : σ), rank (foldS step s l).1 ≤ rank s + l.length
  | [], s => by simp [foldS]
  | t :: l, s => by
    rw [foldS_cons]
    have := rk s t
    split
    · have := foldS_rk rk l (step s t).1
      simp only [List.length_cons]; omega
    · simp only [List.length_cons]; omega
/-- A loop's rounds, as steps. -/
structure YldOk {σ : Type} (alive : σ → Bool) (rank : σ → Nat) (N : Nat) (i n0 L : Nat) (J : σ → List Blk → List Nat → Prop) (step : σ → List Int → σ × Bool) : Prop where
  le : L ≤ n0
  al : ∀ s t, alive (step s t).1 = (step s t).2
  rk : ∀ s t, rank (step s t).1 ≤ rank s + 1
  call : ∀ s H W F t, alive s = true → rank s < N → TOk t → J s H F → n0 ≤ H.length → ∃ H' W' F', CallR C (.yld i) [.r (.agg (ints .u8 t))] { h := H, wr := W } (.ret (bo (step s t).2) { h := H', wr := W' }) ∧ J (step s t).1 H' F' ∧ H.length ≤ H'.length ∧
    (∀ j, n0 ≤ j → j < H.length → j ∉ F → H'[j]? = H[j]? ∧ j ∉ F') ∧ ∀ x ∈ W', x ∈ W ∨ L ≤ x
  frame : ∀ s H H' F, J s H F → H.length ≤ H'.length → (∀ j, j < H.length → (j < n0 ∨ j ∈ F) → H'[j]? = H[j]?) → J s H' F
  lt : ∀ s H F, J s H F → ∀ j ∈ F, n0 ≤ j ∧ j < H.length

def growV (R : List RV) (y g : Nat) : AV := .fn fn_tally_looked_truths_1_1 [] [.r (.ptr R), .own y 0 0, .own g 0 0]

theorem ints_set (k : IntKind) (l : List Int) (i : Nat) (v : Int) : (ints k l).set i (.lit (.int k v)) = ints k (l.set i v) := by simp [ints, List.map_set]

section
variable {σ : Type} {alive : σ → Bool} {rank : σ → Nat} {N i n0 L : Nat} {J : σ → List Blk → List Nat → Prop} {step : σ → List Int → σ × Bool}
theorem grow_spec (hy : YldOk alive rank N i n0 L J step) {d : Div} (hn : 1 ≤ d.n ∧ d.n ≤ 40) {R : List RV} (hR0 : ∀ m, loadV m (.r (.ptr R)) 1 false = some (i64 d.n))
    (hRm : ∀ m (k : Nat), k < 40 → (k : Int) < d.n → loadV m (.r (.ptr (R.drop (51 + k)))) 1 false = some (.r (slU (may d k)))) :
    ∀ (r k : Nat), k + r = d.n.toNat → ∀ (t : List Int) (s : σ) (H : List Blk) (W F : List Nat) (y g : Nat), alive s = true → rank s + (truthsFrom d r k t).length ≤ N → TOk t → J s H F → n0 ≤ y → n0 ≤ g → y ∉ F → g ∉ F → n0 ≤ H.length →
      H[y]? = some (.cells [.yld i] ty_func_tally_truth_bool 0) → H[g]? = some (.cells [growV R y g] ty_func_tally_truth_int_bool 0) →
      ∃ H' W' F', CallR C (growV R y g) [.r (.agg (ints .u8 t)), i64 k] { h := H, wr := W } (.ret (bo (foldS step s (truthsFrom d r k t)).2) { h := H', wr := W' }) ∧ J (foldS step s (truthsFrom d r k t)).1 H' F' ∧ H.length ≤ H'.length ∧
        (∀ j, n0 ≤ j → j < H.length → j ∉ F → H'[j]? = H[j]? ∧ j ∉ F') ∧ ∀ x ∈ W', x ∈ W ∨ L ≤ x := by
  intro r
  induction r with
  | zero =>
    intro k hk t s H W F y g hal hrk ht hJ hy0 hg0 hyF hgF hH hY hG
    obtain ⟨Hb, hHb⟩ : ∃ Hb, Hb = H ++ [.cells (rs (ints .u8 t)) ty_tally_truth 0] := ⟨_, rfl⟩
    have hJ' : J s Hb F := hy.frame s H Hb F hJ (by simp [hHb]) fun j hj _ => by rw [hHb, List.getElem?_append_left hj]
    obtain ⟨H', W', F', ⟨c1, k1⟩, h2, h3, h4, h5⟩ := hy.call s Hb [] F t hal (by unfold truthsFrom at hrk; simp at hrk; omega) ht hJ' (by simp [hHb]; omega)
    have hY' : Hb[y]? = some (.cells [.yld i] ty_func_tally_truth_bool 0) := by rw [hHb, List.getElem?_append_left (getElem?_lt hY)]; exact hY
    have hT : Hb[H.length]? = some (.cells (rs (ints .u8 t)) ty_tally_truth 0) := by simp [hHb]
    have hkn : ((k : Int) == d.n) = true := by simp; omega
    have l40 : (ints .u8 t).length = 40 := by rw [ints_len]; exact ht.1
    have t40 : List.take 40 (rs (ints .u8 t)) = rs (ints .u8 t) := List.take_of_length_le (by rw [rs_len]; omega)
    obtain ⟨I, hI⟩ : ∃ I, I = ints .u8 t := ⟨_, rfl⟩
    rw [← hI] at hT l40 t40 k1 hHb ⊢
    refine ⟨H', oldWr H.length W' ++ W, F', ?_, ?_, ?_, ?_, ?_⟩
    · unfold truthsFrom
      rw [foldS_single]
      exact CallR.evalK (m1 := { h := H', wr := W' }) rfl rfl prog_tally_looked_truths_1_1 rfl ⟨c1, fun n hn' => by
        simp [runK, finK, a_tally_looked_truths_1_1, ← hHb, hR0, hkn, hY', hT, rs_len, l40, t40, k1 n hn']⟩
    · unfold truthsFrom
      rw [foldS_single]; exact h2
    · have : H.length ≤ Hb.length := by simp [hHb]
      show H.length ≤ H'.length
      omega
    · intro j h0 hj hF
      have hl : H.length ≤ Hb.length := by simp [hHb]
      obtain ⟨e1, e2⟩ := h4 j h0 (by omega) hF
      refine ⟨?_, e2⟩
      rw [e1, hHb, List.getElem?_append_left hj]
    · intro x hx
      rcases List.mem_append.1 hx with hx | hx
      · unfold oldWr at hx
        have := (List.mem_filter.1 hx).1
        rcases h5 x this with h | h
        · cases h
        · exact .inr h
      · exact .inl hx
  | succ r ih =>
    intro k hk t s H W F y g hal hrk ht hJ hy0 hg0 hyF hgF hH hY hG
    have hkn : ((k : Int) == d.n) = false := by simp; omega
    have hk40 : k < 40 := by omega
    have hkd : (k : Int) < d.n := by omega
    have e40 : ((k : Int) < 40) = True := eq_true (by omega)
    have wk : IntKind.wrap .i64 ((k : Int) + 1) = k + 1 := by rw [w64] <;> omega
    have hyl := getElem?_lt hY
    have hgl := getElem?_lt hG
    obtain ⟨V, hV⟩ : ∃ V, V = may d k := ⟨_, rfl⟩
    have hVl : V.length ≤ 3 := by
      rw [hV]; unfold may votesL
      rcases onB_cases d.a0 d.a1 k with e0 | e0 | e0 <;> rcases onB_cases d.n0 d.n1 k with e1 | e1 | e1 <;> rw [e0, e1] <;> decide
    obtain ⟨Hb, hHb⟩ : ∃ Hb, Hb = H ++ [.cells (rs (ints .u8 t)) ty_tally_truth 0] := ⟨_, rfl⟩
    have hHbl : Hb.length = H.length + 1 := by simp [hHb]
    have hJ' : J s Hb F := hy.frame s H Hb F hJ (by omega) fun j hj _ => by rw [hHb, List.getElem?_append_left hj]
    obtain ⟨tr, htr⟩ : ∃ tr : Int → List (List Int), tr = fun v => truthsFrom d r (k + 1) (t.set k v) := ⟨_, rfl⟩
    have hall : truthsFrom d (r + 1) k t = V.flatMap tr := by rw [hV, htr]; rfl
    rw [hall] at hrk ⊢
    have hS : Sl (ints .u8 V) V.length (slU V) := Sl.slU V
    have key := Loop.run (C := C) (c := l_tally_looked_truths_1_1_0) (live := [1, 4, 5, 21, 22, 23]) (fun kk st => ∃ (j : Nat) (t' : List Int) (H1 : List Blk) (W1 F1 : List Nat), j + kk = V.length ∧
        At1 [1, 4, 5, 21, 22, 23] [(1, i64 k), (4, .own g 0 0), (5, .own H.length 0 0), (21, .r (slU V)), (22, i64 V.length), (23, i64 j)] { h := H1, wr := W1 } st ∧ (foldS step s ((V.take j).flatMap tr)).2 = true ∧ J (foldS step s ((V.take j).flatMap tr)).1 H1 F1 ∧
        Hb.length ≤ H1.length ∧ H1[H.length]? = some (.cells (rs (ints .u8 t')) ty_tally_truth 0) ∧ t'.length = 40 ∧ (∀ v, t'.set k v = t.set k v) ∧ (∀ x, n0 ≤ x → x < H.length → x ∉ F → H1[x]? = H[x]? ∧ x ∉ F1) ∧ H.length ∉ F1 ∧ ∀ x ∈ W1, L ≤ x)
      (fun o st => ∃ (H1 : List Blk) (W1 F1 : List Nat), st.m = { h := H1, wr := W1 } ∧ st.defs = [] ∧ J (foldS step s (V.flatMap tr)).1 H1 F1 ∧ Hb.length ≤ H1.length ∧ (∀ x, n0 ≤ x → x < H.length → x ∉ F → H1[x]? = H[x]? ∧ x ∉ F1) ∧ (∀ x ∈ W1, L ≤ x) ∧
        ((o = .ret ∧ eget st.env 7 = bo false ∧ (foldS step s (V.flatMap tr)).2 = false) ∨ (o = .exit 0 ∧ (foldS step s (V.flatMap tr)).2 = true))) (by
      rintro kk st ⟨j, t', H1, W1, F1, hjk, ⟨he, hm, hd, hr⟩, hf2, hJ1, hl1, hT1, ht', hts, hfr, hTF, hW1⟩
      rw [he]
      cases kk with
      | zero =>
        have hj : j = V.length := by omega
        subst hj
        rw [List.take_length] at hf2 hJ1
        exact ⟨.exit 0, _, .of fun K => by simp [l_tally_looked_truths_1_1_0]; rfl, .inr ⟨by simp, H1, W1, F1, by simp [hm], by simp [hd], hJ1, hl1, hfr, hW1, .inr ⟨rfl, hf2⟩⟩⟩
      | succ kk =>
        have hj : j < V.length := by omega
        have w1 : IntKind.wrap .i64 ((j : Int) + 1) = j + 1 := by rw [w64] <;> omega
        have hv : 0 ≤ V[j] ∧ V[j] ≤ 2 := may_ok (d := d) (x := k) (by rw [← hV]; exact List.getElem_mem hj)
        obtain ⟨v, hvv⟩ : ∃ v, v = V[j] := ⟨_, rfl⟩
        have hpre : (V.take (j + 1)).flatMap tr = (V.take j).flatMap tr ++ tr v := by rw [List.take_succ_eq_append_getElem hj, List.flatMap_append, hvv]; simp
        have hall2 : V.flatMap tr = (V.take (j + 1)).flatMap tr ++ (V.drop (j + 1)).flatMap tr := by rw [← List.flatMap_append, List.take_append_drop]
        obtain ⟨s1, hs1⟩ : ∃ s1, s1 = (foldS step s ((V.take j).flatMap tr)).1 := ⟨_, rfl⟩
        have hfold : foldS step s ((V.take (j + 1)).flatMap tr) = foldS step s1 (tr v) := by rw [hpre, foldS_append, if_pos hf2, hs1]
        rw [← hs1] at hJ1
        obtain ⟨H2, hH2⟩ : ∃ H2, H2 = H1.set H.length (.cells (rs (ints .u8 (t.set k v))) ty_tally_truth 0) := ⟨_, rfl⟩
        have hJ2 : J s1 H2 F1 := hy.frame s1 H1 H2 F1 hJ1 (by simp [hH2]) fun x hx hor => by
          rw [hH2, List.getElem?_set_ne]
          rintro rfl
          rcases hor with h | h
          · omega
          · exact hTF h
        have hY1 := hfr y hy0 hyl hyF
        have hG1 := hfr g hg0 hgl hgF
        have hY2 : H2[y]? = some (.cells [.yld i] ty_func_tally_truth_bool 0) := by rw [hH2, List.getElem?_set_ne (by omega), hY1.1]; exact hY
        have hG2 : H2[g]? = some (.cells [growV R y g] ty_func_tally_truth_int_bool 0) := by rw [hH2, List.getElem?_set_ne (by omega), hG1.1]; exact hG
        obtain ⟨H3, W3, F3, ⟨c1, k1⟩, h2, h3, h4, h5⟩ := ih (k + 1) (by omega) (t.set k v) s1 H2 (H.length :: W1) F1 y g (by rw [hs1, foldS_al hy.al _ _ hal, hf2]) (by
          have h1 := foldS_rk hy.rk ((V.take j).flatMap tr) s
          rw [← hs1] at h1
          rw [hall2, hpre, List.length_append, List.length_append] at hrk
          have h2 : truthsFrom d r (k + 1) (t.set k v) = tr v := by rw [htr]
          rw [h2]; omega) (ht.set (by rw [hvv]; exact hv) k) hJ2 hy0 hg0 hY1.2 hG1.2 (by simp [hH2]; omega) hY2 hG2
        rw [show truthsFrom d r (k + 1) (t.set k v) = tr v by rw [htr], ← hfold] at k1 h2
        have hT2 : H2[H.length]? = some (.cells (rs (ints .u8 (t.set k v))) ty_tally_truth 0) := by rw [hH2]; exact List.getElem?_set_self (by omega)
        have l40 : (ints .u8 t').length = 40 := by rw [ints_len]; exact ht'
        have l40' : (ints .u8 (t.set k v)).length = 40 := by rw [ints_len, List.length_set]; exact ht.1
        have t40 : List.take 40 (rs (ints .u8 (t.set k v))) = rs (ints .u8 (t.set k v)) := List.take_of_length_le (by rw [rs_len]; omega)
        have lp : List.take k (rs (ints .u8 t')) ++ .r (.lit (.int .u8 v)) :: List.drop (k + 1) (rs (ints .u8 t')) = rs (ints .u8 (t.set k v)) := by
          have := setN_one (rs (ints .u8 t')) (o := k) (by rw [rs_len]; omega) (.r (.lit (.int .u8 v)))
          rw [rs_set, ints_set, hts] at this
          simpa [setN] using this
        have ok40 : (k + 1 ≤ 40) = True := eq_true (by omega)
        have hTl := h4 H.length (by omega) (by simp [hH2]; omega) hTF
        have hfr3 : ∀ x, n0 ≤ x → x < H.length → x ∉ F → H3[x]? = H[x]? ∧ x ∉ F3 := fun x h0 hx hF => by
          obtain ⟨e1, e2⟩ := hfr x h0 hx hF
          obtain ⟨e3, e4⟩ := h4 x h0 (by simp [hH2]; omega) e2
          exact ⟨by rw [e3, hH2, List.getElem?_set_ne (by omega), e1], e4⟩
        have hW3 : ∀ x ∈ W3, L ≤ x := fun x hx => by
          rcases h5 x hx with h | h
          · rcases List.mem_cons.1 h with rfl | h
            · have := hy.le; omega
            · exact hW1 x h
          · exact h
        have hl3 : Hb.length ≤ H3.length := by
          have : H2.length = H1.length := by simp [hH2]
          show Hb.length ≤ H3.length
          have h3' : H2.length ≤ H3.length := h3
          omega
        obtain ⟨I', hI'⟩ : ∃ I, I = ints .u8 t' := ⟨_, rfl⟩
        obtain ⟨I2, hI2⟩ : ∃ I, I = ints .u8 (t.set k v) := ⟨_, rfl⟩
        rw [← hI'] at hT1 l40 lp
        rw [← hI2] at hT2 l40' t40 lp k1 hH2
        obtain ⟨b, hb⟩ : ∃ b, b = (foldS step s ((V.take (j + 1)).flatMap tr)).2 := ⟨_, rfl⟩
        rw [← hb] at k1
        have hc : callN C = callN C := rfl
        have hGo : ∀ n, c1 ≤ n → callN C n (growV R y g) [.r (.agg I2), .r (.lit (.int .i64 ((k : Int) + 1)))] { h := H2, wr := H.length :: W1 } = some (.ret (bo b) { h := H3, wr := W3 }) := k1
        cases b with
        | true =>
          refine ⟨.norm, _, .ofN ⟨c1, fun n hn' => by
            simp [l_tally_looked_truths_1_1_0, hj, hm, hS.at hj, load_ints hj, ← hvv, e40, hT1, rs_len, l40, ok40, lp, ← hH2, hG2, hT2, l40', t40, wk, hGo n hn', w1]; rfl⟩,
            .inl ⟨rfl, kk, by omega, j + 1, t.set k v, H3, W3, F3, by omega, ⟨by simp, rfl, by simp [hd], by simp [hr]⟩, hb.symm, h2, hl3, by rw [hTl.1, ← hI2]; exact hT2, by rw [List.length_set]; exact ht.1, fun v' => by rw [List.set_set], hfr3, hTl.2, hW3⟩⟩
        | false =>
          have hfin : foldS step s (V.flatMap tr) = ((foldS step s ((V.take (j + 1)).flatMap tr)).1, false) := by rw [hall2, foldS_append, ← hb]; rfl
          refine ⟨.ret, _, .ofN ⟨c1, fun n hn' => by
            simp [l_tally_looked_truths_1_1_0, hj, hm, hS.at hj, load_ints hj, ← hvv, e40, hT1, rs_len, l40, ok40, lp, ← hH2, hG2, hT2, l40', t40, wk, hGo n hn']; rfl⟩,
            .inr ⟨by simp, H3, W3, F3, rfl, by simp [hd], by rw [hfin]; exact h2, hl3, hfr3, hW3, .inl ⟨rfl, by simp, by rw [hfin]⟩⟩⟩)
    have hYb : Hb[y]? = some (.cells [.yld i] ty_func_tally_truth_bool 0) := by rw [hHb, List.getElem?_append_left hyl]; exact hY
    have hTb : Hb[H.length]? = some (.cells (rs (ints .u8 t)) ty_tally_truth 0) := by simp [hHb]
    obtain ⟨o, st, h1, h2, H1, W1, F1, hm1, hd1, hJ1, hl1, hfr1, hW1, hor⟩ := key V.length { env := [(1, i64 k), (4, .own g 0 0), (5, .own H.length 0 0), (21, .r (slU V)), (22, i64 V.length), (23, i64 0)], m := { h := Hb } }
      ⟨0, t, Hb, [], F, by omega, ⟨by simp, rfl, rfl, rfl⟩, by simp [foldS], by simpa [foldS] using hJ', Nat.le_refl _, hTb, ht.1, fun v => rfl, fun x h0 hx hF => ⟨by rw [hHb, List.getElem?_append_left hx], hF⟩, fun h => by have := (hy.lt s H F hJ _ h).2; omega, by simp⟩
    obtain ⟨c0, h1⟩ := h1.get
    have l40 : (ints .u8 t).length = 40 := by rw [ints_len]; exact ht.1
    obtain ⟨I, hI⟩ : ∃ I, I = ints .u8 t := ⟨_, rfl⟩
    rw [← hI] at hTb l40 hHb ⊢
    have hVm := fun m => hRm m k hk40 hkd
    rw [← hV] at hVm
    have hlen := hS.len
    refine ⟨H1, oldWr H.length W1 ++ W, F1, ?_, hJ1, by show H.length ≤ H1.length; omega, hfr1, fun x hx => ?_⟩
    · rcases hor with ⟨rfl, e1, e2⟩ | ⟨rfl, e2⟩ <;> rw [e2]
      · exact CallR.evalK (m1 := { h := H1, wr := W1 }) rfl rfl prog_tally_looked_truths_1_1 rfl ⟨c0, fun n hn' => by
          simp [runK, finK, a_tally_looked_truths_1_1, ← hHb, hR0, hkn, e40, hVm, hlen, h1 n hn', hm1, hd1, e1]⟩
      · exact CallR.evalK (m1 := { h := H1, wr := W1 }) rfl rfl prog_tally_looked_truths_1_1 rfl ⟨c0, fun n hn' => by
          simp [runK, finK, a_tally_looked_truths_1_1, ← hHb, hR0, hkn, e40, hVm, hlen, h1 n hn', hm1, hd1]⟩
    · rcases List.mem_append.1 hx with hx | hx
      · unfold oldWr at hx
        exact .inr (hW1 x (List.mem_filter.1 hx).1)
      · exact .inl hx
end
end Go.AM.T
/- What the functions compute (own work). -/
namespace Go.AM.T
open Go Go.AM
attribute [local simp] so_mov so_pick so_alloc so_box so_build so_slit so_load so_store so_nilc so_bin so_beq so_eqs so_eqn so_eqnl so_not so_conv so_s2b so_mkfn so_slcA so_padd so_fld so_idxA so_idxV so_idxT so_look so_mupd so_mkmap so_mksl so_ext so_app so_lenT so_lenM so_min so_max so_cpy so_clr so_mkif so_tass so_lenS so_idxS so_slc
attribute [local simp] dn_skip dn_label dn_ret dn_exit dn_scope dn_keep dn_reg dn_draw0 noSlots denE denEI stepE  sd_mov sd_pick sd_build sd_load sd_store sd_nilc sd_bin sd_beq sd_eqs sd_eqn sd_eqnl sd_not sd_conv sd_s2b sd_mkfn sd_slc sd_slcA sd_padd sd_fld sd_idxS sd_idxA sd_idxV sd_idxT sd_look sd_mupd sd_ext sd_app sd_lenS sd_lenT sd_lenM sd_min sd_max sd_mkif sd_tass sd_call sd_slit dn_seq dn_cond dn_block dn_loop kn_call denIs denI denOp wants ev eget putD binL enumFrom AV.bool? AV.int? ekeep evs evp runV fin runDefs resAll resOf tupOf unit AV.cells okV ok1 Value.oneCell' fill setN rcells rs_nil rs_cons load_own load_cons mkAgg_rs storeN jmpOut
attribute [local simp] dvL dv1t dvAt mkAgg2 dv0 dv1 dv2 dv3 dv4 dv5 dv6 dv7 dv8 dv9 dv10 dvA dvN dvAll C_fz fzr
theorem truth_zero : z_tally_truth = ints .u8 (List.replicate 40 0) := by simp [z_tally_truth, ints]
theorem TOk_zero : TOk (List.replicate 40 0) := ⟨by simp, fun v hv => by rw [List.mem_replicate] at hv; omega⟩
/-- All truths. -/
def truthsOf (d : Div) : List (List Int) := truthsFrom d d.n.toNat 0 (List.replicate 40 0)
theorem truths_spec {R : List RV} (lR : R.length = 91) (m : Mem) : CallR C (fnv fn_tally_looked_truths) [.r (.agg R)] m (.ret (.r (.fn fn_tally_looked_truths_1 [] [.ptr R])) m) := by
  obtain ⟨H, hH⟩ : ∃ H, H = m.h ++ [.cells (rs R) ty_tally_looked 0] := ⟨_, rfl⟩
  have hc : H[m.h.length]? = some (.cells (rs R) ty_tally_looked 0) := by simp [hH]
  have ht : H.take m.h.length = m.h := by simp [hH]
  have hz : fz { h := H } m.h.length 1000000 (.fn fn_tally_looked_truths_1 [] [.own m.h.length 0 0]) = some (.r (.fn fn_tally_looked_truths_1 [] [.ptr R])) := by
    have h1 : fz { h := H } m.h.length 999998 (.own m.h.length 0 0) = some (.r (.ptr R)) := by
      rw [fz]
      simp only [rcells, hc, if_true]
      rw [if_neg (by omega), List.drop_zero, fzs_rs _ _ _ _ (by omega)]
      simp only [allR_rs]
    rw [fz]
    simp [fzs, h1, allR, AV.toR]
  exact CallR.eval (m1 := { h := H }) rfl rfl prog_tally_looked_truths rfl ⟨0, fun k hk => by simp [a_tally_looked_truths, ← hH, hz, allR, AV.toR]⟩ ht (by simp)

section
variable {σ : Type} {alive : σ → Bool} {rank : σ → Nat} {N i n0 L : Nat} {J : σ → List Blk → List Nat → Prop} {step : σ → List Int → σ × Bool}
theorem iter_spec (hy : YldOk alive rank N i n0 L J step) {d : Div} (hn : 1 ≤ d.n ∧ d.n ≤ 40) {R : List RV} (hR0 : ∀ m, loadV m (.r (.ptr R)) 1 false = some (i64 d.n))
    (hRm : ∀ m (k : Nat), k < 40 → (k : Int) < d.n → loadV m (.r (.ptr (R.drop (51 + k)))) 1 false = some (.r (slU (may d k)))) {s : σ} {H : List Blk} {F : List Nat} (W : List Nat) (hal : alive s = true) (hrk : rank s + (truthsOf d).length ≤ N) (hJ : J s H F) (hH : n0 ≤ H.length) :
    ∃ H' W' F', CallR C (.r (.fn fn_tally_looked_truths_1 [] [.ptr R])) [.yld i] { h := H, wr := W } (.ret (.tup []) { h := H', wr := W' }) ∧ J (foldS step s (truthsOf d)).1 H' F' ∧ H.length ≤ H'.length ∧
      (∀ j, n0 ≤ j → j < H.length → j ∉ F → H'[j]? = H[j]? ∧ j ∉ F') ∧ ∀ x ∈ W', x ∈ W ∨ L ≤ x := by
  obtain ⟨Hb, hHb⟩ : ∃ Hb, Hb = H ++ [.cells [.yld i] ty_func_tally_truth_bool 0, .cells [growV R H.length (H.length + 1)] ty_func_tally_truth_int_bool 0] := ⟨_, rfl⟩
  have hbl : Hb.length = H.length + 2 := by simp [hHb]
  have hY : Hb[H.length]? = some (.cells [.yld i] ty_func_tally_truth_bool 0) := by simp [hHb]
  have hG : Hb[H.length + 1]? = some (.cells [growV R H.length (H.length + 1)] ty_func_tally_truth_int_bool 0) := by simp [hHb]
  have hJ' : J s Hb F := hy.frame s H Hb F hJ (by omega) fun j hj _ => by rw [hHb, List.getElem?_append_left hj]
  have hF : ∀ j ∈ F, j < H.length := fun j hj => (hy.lt s H F hJ j hj).2
  obtain ⟨H', W', F', ⟨c1, k1⟩, h2, h3, h4, h5⟩ := grow_spec hy hn hR0 hRm d.n.toNat 0 (by omega) (List.replicate 40 0) s Hb [H.length + 1] F H.length (H.length + 1) hal hrk TOk_zero hJ' hH (by omega) (fun h => by have := hF _ h; omega) (fun h => by have := hF _ h; omega) (by omega) hY hG
  rw [← truth_zero] at k1
  rw [show truthsFrom d d.n.toNat 0 (List.replicate 40 0) = truthsOf d from rfl] at k1 h2
  obtain ⟨b, hb⟩ : ∃ b, b = (foldS step s (truthsOf d)).2 := ⟨_, rfl⟩
  rw [← hb] at k1
  have k1' : ∀ n, c1 ≤ n → callN C n (growV R H.length (H.length + 1)) [.r (.agg z_tally_truth), .r (.lit (.int .i64 0))] { h := Hb, wr := [H.length + 1] } = some (.ret (bo b) { h := H', wr := W' }) := k1
  obtain ⟨Z, hZ⟩ : ∃ Z, Z = z_tally_truth := ⟨_, rfl⟩
  rw [← hZ] at k1'
  refine ⟨H', oldWr H.length W' ++ W, F', ?_, h2, by show H.length ≤ H'.length; omega, fun j h0 hj hjF => ?_, fun x hx => ?_⟩
  · refine CallR.fnR (CallR.evalK (m1 := { h := H', wr := W' }) rfl rfl prog_tally_looked_truths_1 rfl ⟨c1, fun n hn' => ?_⟩)
    simp only [growV] at k1' hHb hG
    simp [runK, finK, a_tally_looked_truths_1, ← hZ, allR, AV.toR, ← hHb, hG, k1' n hn']
  · obtain ⟨e1, e2⟩ := h4 j h0 (by omega) hjF
    exact ⟨by rw [e1, hHb, List.getElem?_append_left hj], e2⟩
  · rcases List.mem_append.1 hx with hx | hx
    · unfold oldWr at hx
      obtain ⟨hx1, hx2⟩ := List.mem_filter.1 hx
      rcases h5 x hx1 with h | h
      · have : x < H.length := by simpa using hx2
        simp at h; omega
      · exact .inr h
    · exact .inl hx
theorem lookC_p0 {d : Div} {a0 a1 n0 n1 p q : RV} (m : Mem) : loadV m (.r (.ptr (lookC d (divC d a0 a1 n0 n1 p q)))) 1 false = some (i64 d.n) := load_cons m _ _
theorem lookC_pm {d : Div} {a0 a1 n0 n1 p q : RV} (m : Mem) (k : Nat) (hk : k < 40) (hn : (k : Int) < d.n) : loadV m (.r (.ptr ((lookC d (divC d a0 a1 n0 n1 p q)).drop (51 + k)))) 1 false = some (.r (slU (may d k))) := by
  have h : (lookC d (divC d a0 a1 n0 n1 p q))[51 + k]? = some (slU (may d k)) := by
    unfold lookC
    rw [lkR_get2 rfl _ _ hk, if_pos hn]
  obtain ⟨hl, he⟩ := List.getElem?_eq_some_iff.1 h
  rw [List.drop_eq_getElem_cons hl, load_cons, he]
end
end Go.AM.T
/- What the functions compute (own work). -/
namespace Go.AM.T
open Go Go.AM
attribute [local simp] so_mov so_pick so_alloc so_box so_build so_slit so_load so_store so_nilc so_bin so_beq so_eqs so_eqn so_eqnl so_not so_conv so_s2b so_mkfn so_slcA so_padd so_fld so_idxA so_idxV so_idxT so_look so_mupd so_mkmap so_mksl so_ext so_app so_lenT so_lenM so_min so_max so_cpy so_clr so_mkif so_tass so_lenS so_idxS so_slc
attribute [local simp] dn_skip dn_label dn_ret dn_exit dn_scope dn_keep dn_reg dn_draw0 noSlots denE denEI stepE  sd_mov sd_pick sd_build sd_load sd_store sd_nilc sd_bin sd_beq sd_eqs sd_eqn sd_eqnl sd_not sd_conv sd_s2b sd_mkfn sd_slc sd_slcA sd_padd sd_fld sd_idxS sd_idxA sd_idxV sd_idxT sd_look sd_mupd sd_ext sd_app sd_lenS sd_lenT sd_lenM sd_min sd_max sd_mkif sd_tass sd_call sd_slit dn_seq dn_cond dn_block dn_loop kn_call denIs denI denOp wants ev eget putD binL enumFrom AV.bool? AV.int? ekeep evs evp runV fin runDefs resAll resOf tupOf unit AV.cells okV ok1 Value.oneCell' fill setN rcells rs_nil rs_cons load_own load_cons mkAgg_rs storeN jmpOut
attribute [local simp] dvL dv1t dvAt mkAgg2 dv0 dv1 dv2 dv3 dv4 dv5 dv6 dv7 dv8 dv9 dv10 dvA dvN dvAll C_fz fzr
def cnt (n : Int × Int) (v : Int) : Int × Int := if v = 1 then (n.1 + 1, n.2) else if v = 2 then (n.1, n.2 + 1) else n
def nmC (n : Int × Int) : List AV := [i64 n.1, i64 n.2]
theorem count_spec (n : Int × Int) (h1 : 0 ≤ n.1 ∧ n.1 ≤ 1000) (h2 : 0 ≤ n.2 ∧ n.2 ≤ 1000) (v : Int) {H : List Blk} {nb : Nat} (hN : H[nb]? = some (.cells (nmC n) ty_tally_Numbers 0)) (W : List Nat) :
    ∃ W', CallR C (.fn fn_tally_looked_numbers_1 [] [.own nb 0 0]) [u8 v] { h := H, wr := W } (.ret (.tup []) { h := H.set nb (.cells (nmC (cnt n v)) ty_tally_Numbers 0), wr := W' }) ∧ ∀ x ∈ W', x ∈ W ∨ x = nb := by
  have hl := getElem?_lt hN
  have w1 : IntKind.wrap .i64 (n.1 + 1) = n.1 + 1 := by rw [w64] <;> omega
  have w2 : IntKind.wrap .i64 (n.2 + 1) = n.2 + 1 := by rw [w64] <;> omega
  unfold cnt
  by_cases e1 : v = 1
  · subst e1
    rw [if_pos rfl]
    refine ⟨[nb] ++ W, CallR.evalW (m1 := { h := H.set nb (.cells (nmC (n.1 + 1, n.2)) ty_tally_Numbers 0), wr := [nb] }) (v := .tup []) rfl prog_tally_looked_numbers_1 rfl ⟨0, fun k hk => ?_⟩ ?_, fun x hx => by simp at hx; exact hx.symm⟩
    · simp only [nmC] at hN ⊢
      simp [runK, finK, a_tally_looked_numbers_1, hN, w1]
    · rw [show C.keepAll fn_tally_looked_numbers_1 = false from rfl, settle_w (v' := .tup []) (by simp [C_fz, fz, fzs])]
      · simp [oldWr, hl, List.take_of_length_le]
      · intro i hi _ b hb
        simp only [List.mem_singleton] at hi
        subst hi
        rw [List.getElem?_set_self hl] at hb
        cases hb; rfl
  · rw [if_neg e1]
    have e1' : (v == 1) = false := by simpa using e1
    by_cases e2 : v = 2
    · subst e2
      rw [if_pos rfl]
      refine ⟨[nb] ++ W, CallR.evalW (m1 := { h := H.set nb (.cells (nmC (n.1, n.2 + 1)) ty_tally_Numbers 0), wr := [nb] }) (v := .tup []) rfl prog_tally_looked_numbers_1 rfl ⟨0, fun k hk => ?_⟩ ?_, fun x hx => by simp at hx; exact hx.symm⟩
      · simp only [nmC] at hN ⊢
        simp [runK, finK, a_tally_looked_numbers_1, hN, w2]
      · rw [show C.keepAll fn_tally_looked_numbers_1 = false from rfl, settle_w (v' := .tup []) (by simp [C_fz, fz, fzs])]
        · simp [oldWr, hl, List.take_of_length_le]
        · intro i hi _ b hb
          simp only [List.mem_singleton] at hi
          subst hi
          rw [List.getElem?_set_self hl] at hb
          cases hb; rfl
    · rw [if_neg e2]
      have e2' : (v == 2) = false := by simpa using e2
      have hself : H.set nb (.cells (nmC n) ty_tally_Numbers 0) = H := by
        obtain ⟨h1, h2⟩ := List.getElem?_eq_some_iff.1 hN
        rw [← h2, List.set_getElem_self]
      rw [hself]
      refine ⟨W, CallR.evalW (m1 := { h := H, wr := [] }) (v := .tup []) rfl prog_tally_looked_numbers_1 rfl ⟨0, fun k hk => ?_⟩ ?_, fun x hx => .inl hx⟩
      · simp [runK, finK, a_tally_looked_numbers_1, e1', e2']
      · rw [show C.keepAll fn_tally_looked_numbers_1 = false from rfl, settle_w (v' := .tup []) (by simp [C_fz, fz, fzs])]
        · simp [oldWr, List.take_of_length_le]
        · intro i hi; simp at hi
end Go.AM.T
/- What the functions compute (own work). -/
namespace Go.AM.T
open Go Go.AM
attribute [local simp] so_mov so_pick so_alloc so_box so_build so_slit so_load so_store so_nilc so_bin so_beq so_eqs so_eqn so_eqnl so_not so_conv so_s2b so_mkfn so_slcA so_padd so_fld so_idxA so_idxV so_idxT so_look so_mupd so_mkmap so_mksl so_ext so_app so_lenT so_lenM so_min so_max so_cpy so_clr so_mkif so_tass so_lenS so_idxS so_slc
attribute [local simp] dn_skip dn_label dn_ret dn_exit dn_scope dn_keep dn_reg dn_draw0 noSlots denE denEI stepE  sd_mov sd_pick sd_build sd_load sd_store sd_nilc sd_bin sd_beq sd_eqs sd_eqn sd_eqnl sd_not sd_conv sd_s2b sd_mkfn sd_slc sd_slcA sd_padd sd_fld sd_idxS sd_idxA sd_idxV sd_idxT sd_look sd_mupd sd_ext sd_app sd_lenS sd_lenT sd_lenM sd_min sd_max sd_mkif sd_tass sd_call sd_slit dn_seq dn_cond dn_block dn_loop kn_call denIs denI denOp wants ev eget putD binL enumFrom AV.bool? AV.int? ekeep evs evp runV fin runDefs resAll resOf tupOf unit AV.cells okV ok1 Value.oneCell' fill setN rcells rs_nil rs_cons load_own load_cons mkAgg_rs storeN jmpOut
attribute [local simp] dvL dv1t dvAt mkAgg2 dv0 dv1 dv2 dv3 dv4 dv5 dv6 dv7 dv8 dv9 dv10 dvA dvN dvAll C_fz fzr
def tg (t : List Int) (i : Nat) : Int := t.getD i 0
def memStep (d : Div) (t : List Int) (n : Int × Int) (i : Nat) : Int × Int := if paired d.pairs i then n else cnt n (tg t i)
def proxStep (d : Div) (t : List Int) (n : Int × Int) (p : Int × Int) : Int × Int := if tg t p.2.toNat = 0 ∧ paired d.pairs p.2.toNat = false ∧ paired d.pairs p.1.toNat = false then cnt n (tg t p.1.toNat) else n
/-- What counts in a truth. -/
def numsM (d : Div) (t : List Int) (k : Nat) : Int × Int := (List.range k).foldl (memStep d t) (0, 0)
def numsL (d : Div) (t : List Int) : Int × Int := d.proxies.foldl (proxStep d t) (numsM d t d.n.toNat)
theorem cnt_le {n : Int × Int} {k : Int} (v : Int) (h1 : 0 ≤ n.1 ∧ n.1 ≤ k) (h2 : 0 ≤ n.2 ∧ n.2 ≤ k) : (0 ≤ (cnt n v).1 ∧ (cnt n v).1 ≤ k + 1) ∧ (0 ≤ (cnt n v).2 ∧ (cnt n v).2 ≤ k + 1) := by
  unfold cnt
  split
  · simp only; omega
  · split
    · simp only; omega
    · omega
theorem numsM_le (d : Div) (t : List Int) : ∀ k : Nat, (0 ≤ (numsM d t k).1 ∧ (numsM d t k).1 ≤ k) ∧ (0 ≤ (numsM d t k).2 ∧ (numsM d t k).2 ≤ k)
  | 0 => by simp [numsM]
  | k + 1 => by
    have ih := numsM_le d t k
    have e : numsM d t (k + 1) = memStep d t (numsM d t k) k := by unfold numsM; rw [List.range_succ, List.foldl_append]; rfl
    rw [e]
    unfold memStep
    split
    · omega
    · have := cnt_le (tg t k) ih.1 ih.2
      push_cast
      exact this
theorem prox_le (d : Div) (t : List Int) : ∀ (l : List (Int × Int)) (n : Int × Int) (k : Int), (0 ≤ n.1 ∧ n.1 ≤ k) → (0 ≤ n.2 ∧ n.2 ≤ k) → (0 ≤ (l.foldl (proxStep d t) n).1 ∧ (l.foldl (proxStep d t) n).1 ≤ k + l.length) ∧ (0 ≤ (l.foldl (proxStep d t) n).2 ∧ (l.foldl (proxStep d t) n).2 ≤ k + l.length)
  | [], n, k, h1, h2 => by simp; omega
  | p :: l, n, k, h1, h2 => by
    have hc : (0 ≤ (proxStep d t n p).1 ∧ (proxStep d t n p).1 ≤ k + 1) ∧ (0 ≤ (proxStep d t n p).2 ∧ (proxStep d t n p).2 ≤ k + 1) := by
      unfold proxStep
      split
      · exact cnt_le _ h1 h2
      · omega
    have := prox_le d t l (proxStep d t n p) (k + 1) hc.1 hc.2
    simp only [List.foldl_cons, List.length_cons]
    push_cast
    omega
theorem right_prox {d : Div} (h : rightB d = true) : ∀ x ∈ d.proxies, (0 ≤ x.1 ∧ x.1 < d.n) ∧ (0 ≤ x.2 ∧ x.2 < d.n) := by
  intro x hx
  obtain ⟨i, hi, rfl⟩ := List.getElem_of_mem hx
  have hp : proxOk d.n d.proxies = true := by
    unfold rightB at h
    simp only [Bool.and_eq_true] at h
    exact h.2
  unfold proxOk at hp
  rw [List.all_eq_true] at hp
  have h1 := hp i (by simpa using hi)
  unfold proxI at h1
  rw [Bool.and_eq_true, getD_get hi] at h1
  have h2 := h1.1
  unfold pairBad memB at h2
  simp at h2
  omega
theorem right_len {d : Div} (h : rightB d = true) : d.pairs.length ≤ 10 ∧ d.proxies.length ≤ 10 ∧ (0 ≤ d.need ∧ d.need ≤ 40) ∧ (0 ≤ d.quorum ∧ d.quorum ≤ 40) ∧ (d.tie = 1 ∨ d.tie = 2) ∧ d.rule ≤ 2 := by
  unfold rightB headB inB at h
  simp at h
  omega

/-- What a heap holds while votes are counted. -/
structure HN (m : Mem) (R : List RV) (t : List Int) (n : Int × Int) (H : List Blk) (W : List Nat) : Prop where
  x : H[m.h.length]? = some (.cells (rs R) ty_tally_looked 0)
  t : H[m.h.length + 1]? = some (.cells (rs (ints .u8 t)) ty_tally_truth 0)
  n : H[m.h.length + 2]? = some (.cells (nmC n) ty_tally_Numbers 0)
  tk : H.take m.h.length = m.h
  wr : ∀ x ∈ W, m.h.length ≤ x
section
variable {m : Mem} {R : List RV} {t : List Int} {n : Int × Int} {H : List Blk} {W : List Nat}
theorem HN.lt (h : HN m R t n H W) : m.h.length + 2 < H.length := getElem?_lt h.n
theorem HN.push (h : HN m R t n H W) (b : Blk) : HN m R t n (H ++ [b]) W := by
  have hl := h.lt
  refine ⟨?_, ?_, ?_, ?_, h.wr⟩
  · rw [List.getElem?_append_left (by omega)]; exact h.x
  · rw [List.getElem?_append_left (by omega)]; exact h.t
  · rw [List.getElem?_append_left (by omega)]; exact h.n
  · rw [List.take_append_of_le_length (by omega)]; exact h.tk
theorem HN.set (h : HN m R t n H W) (n' : Int × Int) {W' : List Nat} (hW : ∀ x ∈ W', m.h.length ≤ x) : HN m R t n' (H.set (m.h.length + 2) (.cells (nmC n') ty_tally_Numbers 0)) W' := by
  have hl := h.lt
  refine ⟨?_, ?_, ?_, ?_, hW⟩
  · rw [List.getElem?_set_ne (by omega)]; exact h.x
  · rw [List.getElem?_set_ne (by omega)]; exact h.t
  · exact List.getElem?_set_self (by omega)
  · rw [List.take_set_of_le (by omega)]; exact h.tk
theorem HN.wrs (h : HN m R t n H W) {W' : List Nat} (hW : ∀ x ∈ W', m.h.length ≤ x) : HN m R t n H W' := ⟨h.x, h.t, h.n, h.tk, hW⟩
end
theorem tg_get {t : List Int} (ht : t.length = 40) {i : Nat} (hi : i < 40) : List.take 1 (List.drop i (rs (ints .u8 t))) = [u8 (tg t i)] := by
  rw [List.take_one, List.head?_drop, rs_get]
  have : (ints .u8 t)[i]? = some (.lit (.int .u8 (tg t i))) := by
    simp [ints, tg, List.getElem?_eq_getElem (show i < t.length by omega)]
  rw [this]; rfl

section
variable {d : Div} {a0 a1 n0 n1 p q : RV}
theorem nums_members (hn : 1 ≤ d.n ∧ d.n ≤ 40) {t : List Int} (ht : t.length = 40) (m : Mem) {R : List RV} (lR : R.length = 91) (hRp : ∀ i, i < 40 → List.take 1 (List.drop (11 + i) (rs R)) = [bo (paired d.pairs i)]) {H : List Blk} {W : List Nat} (hF : HN m R t (0, 0) H W) :
    ∀ s : St, ekeep [2, 3, 4, 5, 12, 13] s.env = [(2, .own m.h.length 0 0), (3, .own (m.h.length + 1) 0 0), (4, .own (m.h.length + 2) 0 0), (5, .fn fn_tally_looked_numbers_1 [] [.own (m.h.length + 2) 0 0]), (12, i64 d.n), (13, i64 0)] → s.m = { h := H, wr := W } → s.defs = [] →
    ∃ s' H' W', Loop C [2, 3, 4, 5, 12, 13] l_tally_looked_numbers_1 s (.exit 0) s' ∧ s'.m = { h := H', wr := W' } ∧ HN m R t (numsM d t d.n.toNat) H' W' ∧ s'.defs = [] ∧
      eget s'.env 2 = .own m.h.length 0 0 ∧ eget s'.env 3 = .own (m.h.length + 1) 0 0 ∧ eget s'.env 4 = .own (m.h.length + 2) 0 0 ∧ eget s'.env 5 = .fn fn_tally_looked_numbers_1 [] [.own (m.h.length + 2) 0 0] := by
  intro s he hm hd
  have key := Loop.run (C := C) (c := l_tally_looked_numbers_1) (live := [2, 3, 4, 5, 12, 13]) (fun k s => ∃ (j : Nat) (H : List Blk) (W : List Nat), (j : Int) + k = d.n ∧
      ekeep [2, 3, 4, 5, 12, 13] s.env = [(2, .own m.h.length 0 0), (3, .own (m.h.length + 1) 0 0), (4, .own (m.h.length + 2) 0 0), (5, .fn fn_tally_looked_numbers_1 [] [.own (m.h.length + 2) 0 0]), (12, i64 d.n), (13, i64 j)] ∧ s.m = { h := H, wr := W } ∧
      HN m R t (numsM d t j) H W ∧ s.defs = [])
    (fun o s' => ∃ H' W', o = .exit 0 ∧ s'.m = { h := H', wr := W' } ∧ HN m R t (numsM d t d.n.toNat) H' W' ∧ s'.defs = [] ∧
      eget s'.env 2 = .own m.h.length 0 0 ∧ eget s'.env 3 = .own (m.h.length + 1) 0 0 ∧ eget s'.env 4 = .own (m.h.length + 2) 0 0 ∧ eget s'.env 5 = .fn fn_tally_looked_numbers_1 [] [.own (m.h.length + 2) 0 0]) (by
    rintro k s ⟨j, H, W, hjk, he, hm, hF, hd⟩
    rw [he]
    cases k with
    | zero =>
      have hj : d.n.toNat = j := by omega
      have e1 : ((j : Int) < d.n) = False := eq_false (by omega)
      exact ⟨.exit 0, _, .of fun K => by simp [l_tally_looked_numbers_1, e1]; rfl, .inr ⟨by simp, H, W, rfl, by simp [hm], by rw [hj]; exact hF, by simp [hd], by simp, by simp, by simp, by simp⟩⟩
    | succ k =>
      have e1 : ((j : Int) < d.n) = True := eq_true (by omega)
      have hj40 : j < 40 := by omega
      have e2 : ((j : Int) < 40) = True := eq_true (by omega)
      have w1 : IntKind.wrap .i64 ((j : Int) + 1) = j + 1 := by rw [w64] <;> omega
      have hX := hF.x
      have hT := hF.t
      have l40 : (ints .u8 t).length = 40 := by rw [ints_len]; exact ht
      have hp := hRp j hj40
      have htg := tg_get ht hj40
      have oa : (11 + j + 1 ≤ 91) = True := eq_true (by omega)
      have ob : (j + 1 ≤ 40) = True := eq_true (by omega)
      have hstep : numsM d t (j + 1) = memStep d t (numsM d t j) j := by unfold numsM; rw [List.range_succ, List.foldl_append]; rfl
      obtain ⟨I, hI⟩ : ∃ I, I = ints .u8 t := ⟨_, rfl⟩
      rw [← hI] at hT l40 htg
      cases e3 : paired d.pairs j with
      | true =>
        rw [e3] at hp
        refine ⟨.norm, _, .of fun K => by simp [l_tally_looked_numbers_1, e1, e2, hm, hX, rs_len, lR, oa, hp, w1]; rfl, .inl ⟨rfl, k, by omega, j + 1, H, W, by omega, by simp, by simp [hm], ?_, by simp [hd]⟩⟩
        rw [hstep]; unfold memStep; rw [if_pos e3]; exact hF
      | false =>
        rw [e3] at hp
        have hle := numsM_le d t j
        obtain ⟨W', ⟨c1, k1⟩, hW'⟩ := count_spec (numsM d t j) (by omega) (by omega) (tg t j) hF.n W
        refine ⟨.norm, _, .ofN ⟨c1, fun n hn' => by simp [l_tally_looked_numbers_1, e1, e2, hm, hX, hT, rs_len, lR, l40, oa, ob, hp, htg, k1 n hn', w1]; rfl⟩, .inl ⟨rfl, k, by omega, j + 1, _, _, by omega, by simp, rfl, ?_, by simp [hd]⟩⟩
        rw [hstep]; unfold memStep; rw [if_neg (by simp [e3])]
        exact hF.set _ fun x hx => by
          rcases hW' x hx with h | h
          · exact hF.wr x h
          · omega)
  obtain ⟨o, s', h1, h2, H', W', rfl, h3, h4, h5, h6, h7, h8, h9⟩ := key d.n.toNat s ⟨0, H, W, by omega, he, hm, hF, hd⟩
  exact ⟨s', H', W', h1, h3, h4, h5, h6, h7, h8, h9⟩
end
end Go.AM.T
/- What the functions compute (own work). -/
namespace Go.AM.T
open Go Go.AM
attribute [local simp] so_mov so_pick so_alloc so_box so_build so_slit so_load so_store so_nilc so_bin so_beq so_eqs so_eqn so_eqnl so_not so_conv so_s2b so_mkfn so_slcA so_padd so_fld so_idxA so_idxV so_idxT so_look so_mupd so_mkmap so_mksl so_ext so_app so_lenT so_lenM so_min so_max so_cpy so_clr so_mkif so_tass so_lenS so_idxS so_slc
attribute [local simp] dn_skip dn_label dn_ret dn_exit dn_scope dn_keep dn_reg dn_draw0 noSlots denE denEI stepE  sd_mov sd_pick sd_build sd_load sd_store sd_nilc sd_bin sd_beq sd_eqs sd_eqn sd_eqnl sd_not sd_conv sd_s2b sd_mkfn sd_slc sd_slcA sd_padd sd_fld sd_idxS sd_idxA sd_idxV sd_idxT sd_look sd_mupd sd_ext sd_app sd_lenS sd_lenT sd_lenM sd_min sd_max sd_mkif sd_tass sd_call sd_slit dn_seq dn_cond dn_block dn_loop kn_call denIs denI denOp wants ev eget putD binL enumFrom AV.bool? AV.int? ekeep evs evp runV fin runDefs resAll resOf tupOf unit AV.cells okV ok1 Value.oneCell' fill setN rcells rs_nil rs_cons load_own load_cons mkAgg_rs storeN jmpOut
attribute [local simp] dvL dv1t dvAt mkAgg2 dv0 dv1 dv2 dv3 dv4 dv5 dv6 dv7 dv8 dv9 dv10 dvA dvN dvAll C_fz fzr
section
variable {d : Div} {a0 a1 n0 n1 p q : RV}
theorem nums_proxies (hs : DivS d a0 a1 n0 n1 p q) (hr : rightB d = true) {t : List Int} (ht : t.length = 40) (m : Mem) {R : List RV} (lR : R.length = 91) (hRp : ∀ i, i < 40 → List.take 1 (List.drop (11 + i) (rs R)) = [bo (paired d.pairs i)]) {H : List Blk} {W : List Nat} {n : Int × Int}
    (h1 : 0 ≤ n.1 ∧ n.1 ≤ 40) (h2 : 0 ≤ n.2 ∧ n.2 ≤ 40) (hF : HN m R t n H W) :
    ∀ s : St, ekeep [2, 3, 4, 5, 29, 30, 31] s.env = [(2, .own m.h.length 0 0), (3, .own (m.h.length + 1) 0 0), (4, .own (m.h.length + 2) 0 0), (5, .fn fn_tally_looked_numbers_1 [] [.own (m.h.length + 2) 0 0]), (29, .r q), (30, i64 d.proxies.length), (31, i64 0)] → s.m = { h := H, wr := W } → s.defs = [] →
    ∃ s' H' W', Loop C [2, 3, 4, 5, 29, 30, 31] l_tally_looked_numbers_0 s (.exit 2) s' ∧ s'.m = { h := H', wr := W' } ∧ HN m R t (d.proxies.foldl (proxStep d t) n) H' W' ∧ s'.defs = [] ∧ eget s'.env 4 = .own (m.h.length + 2) 0 0 := by
  intro s he hm hd
  have hlen := (right_len hr).2.1
  have key := Loop.run (C := C) (c := l_tally_looked_numbers_0) (live := [2, 3, 4, 5, 29, 30, 31]) (fun k s => ∃ (j : Nat) (H : List Blk) (W : List Nat), j + k = d.proxies.length ∧
      ekeep [2, 3, 4, 5, 29, 30, 31] s.env = [(2, .own m.h.length 0 0), (3, .own (m.h.length + 1) 0 0), (4, .own (m.h.length + 2) 0 0), (5, .fn fn_tally_looked_numbers_1 [] [.own (m.h.length + 2) 0 0]), (29, .r q), (30, i64 d.proxies.length), (31, i64 j)] ∧ s.m = { h := H, wr := W } ∧
      HN m R t ((d.proxies.take j).foldl (proxStep d t) n) H W ∧ s.defs = [])
    (fun o s' => ∃ H' W', o = .exit 2 ∧ s'.m = { h := H', wr := W' } ∧ HN m R t (d.proxies.foldl (proxStep d t) n) H' W' ∧ s'.defs = [] ∧ eget s'.env 4 = .own (m.h.length + 2) 0 0) (by
    rintro k s ⟨j, H, W, hjk, he, hm, hF, hd⟩
    rw [he]
    cases k with
    | zero =>
      have hj : j = d.proxies.length := by omega
      subst hj
      rw [List.take_length] at hF
      exact ⟨.exit 2, _, .of fun K => by simp [l_tally_looked_numbers_0]; rfl, .inr ⟨by simp, H, W, rfl, by simp [hm], hF, by simp [hd], by simp⟩⟩
    | succ k =>
      have hj : j < d.proxies.length := by omega
      have w1 : IntKind.wrap .i64 ((j : Int) + 1) = j + 1 := by rw [w64] <;> omega
      obtain ⟨hpa, hpb⟩ := right_prox hr d.proxies[j] (List.getElem_mem hj)
      have hn := right_n hr
      obtain ⟨a, ha⟩ : ∃ a : Nat, d.proxies[j].1 = a := ⟨d.proxies[j].1.toNat, by omega⟩
      obtain ⟨b, hb⟩ : ∃ b : Nat, d.proxies[j].2 = b := ⟨d.proxies[j].2.toNat, by omega⟩
      have la : a < 40 := by omega
      have lb : b < 40 := by omega
      have ea : ((a : Int) < 40) = True := eq_true (by omega)
      have eb : ((b : Int) < 40) = True := eq_true (by omega)
      have hlt := hF.lt
      have hP := hF.push (.cells [i64 a, i64 b] ty_tally_Proxy 0)
      have hX := hP.x
      have hT := hP.t
      have l40 : (ints .u8 t).length = 40 := by rw [ints_len]; exact ht
      have pa := hRp a la
      have pb := hRp b lb
      have ta := tg_get ht la
      have tb := tg_get ht lb
      have oa : (11 + a + 1 ≤ 91) = True := eq_true (by omega)
      have ob : (11 + b + 1 ≤ 91) = True := eq_true (by omega)
      have oa' : (a + 1 ≤ 40) = True := eq_true (by omega)
      have ob' : (b + 1 ≤ 40) = True := eq_true (by omega)
      obtain ⟨nj, hnj⟩ : ∃ nj, nj = (d.proxies.take j).foldl (proxStep d t) n := ⟨_, rfl⟩
      have hstep : (d.proxies.take (j + 1)).foldl (proxStep d t) n = proxStep d t nj (a, b) := by
        rw [List.take_succ_eq_append_getElem hj, List.foldl_append, ← hnj]
        show proxStep d t nj d.proxies[j] = _
        rw [show d.proxies[j] = ((a : Int), (b : Int)) from Prod.ext ha hb]
      have hst : proxStep d t nj (a, b) = if tg t b = 0 ∧ paired d.pairs b = false ∧ paired d.pairs a = false then cnt nj (tg t a) else nj := by
        unfold proxStep; simp
      obtain ⟨I, hI⟩ : ∃ I, I = ints .u8 t := ⟨_, rfl⟩
      rw [← hI] at hT l40 ta tb
      have same : proxStep d t nj (a, b) = nj → HN m R t ((d.proxies.take (j + 1)).foldl (proxStep d t) n) (H ++ [.cells [i64 a, i64 b] ty_tally_Proxy 0]) (H.length :: W) := fun h => by
        rw [hstep, h, hnj]
        exact hP.wrs fun x hx => by
          rcases List.mem_cons.1 hx with rfl | hx
          · omega
          · exact hF.wr x hx
      by_cases e1 : tg t b = 0
      case neg =>
        have e1' : (tg t b == 0) = false := by simpa using e1
        exact ⟨.norm, _, .of fun K => by simp [l_tally_looked_numbers_0, hm, hj, hs.q.at hj, load_prs hj, ha, hb, eb, hT, l40, rs_len, ob', tb, e1', w1]; rfl, .inl ⟨rfl, k, by omega, j + 1, _, _, by omega, by simp, rfl, same (by rw [hst, if_neg (by simp [e1])]), by simp [hd]⟩⟩
      case pos =>
        cases e2 : paired d.pairs b with
        | true =>
          rw [e2] at pb
          exact ⟨.norm, _, .of fun K => by simp [l_tally_looked_numbers_0, hm, hj, hs.q.at hj, load_prs hj, ha, hb, ea, eb, hT, hX, lR, l40, rs_len, ob, ob', tb, pb, e1, w1]; rfl, .inl ⟨rfl, k, by omega, j + 1, _, _, by omega, by simp, rfl, same (by rw [hst, if_neg (by simp [e2])]), by simp [hd]⟩⟩
        | false =>
          rw [e2] at pb
          cases e3 : paired d.pairs a with
          | true =>
            rw [e3] at pa
            exact ⟨.norm, _, .of fun K => by simp [l_tally_looked_numbers_0, hm, hj, hs.q.at hj, load_prs hj, ha, hb, ea, eb, hT, hX, lR, l40, rs_len, oa, ob, ob', tb, pa, pb, e1, w1]; rfl, .inl ⟨rfl, k, by omega, j + 1, _, _, by omega, by simp, rfl, same (by rw [hst, if_neg (by simp [e3])]), by simp [hd]⟩⟩
          | false =>
            rw [e3] at pa
            have hle := prox_le d t (d.proxies.take j) n 40 h1 h2
            rw [← hnj] at hle
            have hjl : (d.proxies.take j).length ≤ 10 := by simp; omega
            obtain ⟨W', ⟨c1, k1⟩, hW'⟩ := count_spec nj (by omega) (by omega) (tg t a) (hnj ▸ hP.n) (H.length :: W)
            refine ⟨.norm, _, .ofN ⟨c1, fun n hn' => by simp [l_tally_looked_numbers_0, hm, hj, hs.q.at hj, load_prs hj, ha, hb, ea, eb, hT, hX, lR, l40, rs_len, oa, ob, oa', ob', ta, tb, pa, pb, e1, k1 n hn', w1]; rfl⟩, .inl ⟨rfl, k, by omega, j + 1, _, _, by omega, by simp, rfl, ?_, by simp [hd]⟩⟩
            rw [hstep, hst, if_pos ⟨e1, e2, e3⟩]
            exact hP.set _ fun x hx => by
              rcases hW' x hx with h | h
              · rcases List.mem_cons.1 h with rfl | h
                · omega
                · exact hF.wr x h
              · omega)
  obtain ⟨o, s', h1, h2, H', W', rfl, h3, h4, h5, h6⟩ := key d.proxies.length s ⟨0, H, W, by omega, he, hm, hF, hd⟩
  exact ⟨s', H', W', h1, h3, h4, h5, h6⟩

theorem numbers_spec (hs : DivS d a0 a1 n0 n1 p q) (hr : rightB d = true) {t : List Int} (ht : t.length = 40) (m : Mem) :
    CallR C (fnv fn_tally_looked_numbers) [.r (.agg (lookC d (divC d a0 a1 n0 n1 p q))), .r (.agg (ints .u8 t))] m (.ret (.r (.agg [.lit (.int .i64 (numsL d t).1), .lit (.int .i64 (numsL d t).2)])) m) := by
  have hn := right_n hr
  have lR : (lookC d (divC d a0 a1 n0 n1 p q)).length = 91 := lookC_len
  have hRn := lookC_n (d := d) (a0 := a0) (a1 := a1) (n0 := n0) (n1 := n1) (p := p) (q := q)
  have hRp : ∀ i, i < 40 → List.take 1 (List.drop (11 + i) (rs (lookC d (divC d a0 a1 n0 n1 p q)))) = [bo (paired d.pairs i)] := fun i hi => lookC_paired hi
  have hRq : List.take 1 (List.drop 6 (rs (lookC d (divC d a0 a1 n0 n1 p q)))) = [.r q] := rfl
  obtain ⟨R, hRR⟩ : ∃ R, R = lookC d (divC d a0 a1 n0 n1 p q) := ⟨_, rfl⟩
  rw [← hRR] at lR hRn hRq hRp ⊢
  obtain ⟨H, hH⟩ : ∃ H, H = m.h ++ [.cells (rs R) ty_tally_looked 0, .cells (rs (ints .u8 t)) ty_tally_truth 0, .cells [i64 0, i64 0] ty_tally_Numbers 0] := ⟨_, rfl⟩
  have hF : HN m R t (0, 0) H [] := ⟨by simp [hH], by simp [hH], by simp [hH, nmC], by simp [hH], by simp⟩
  obtain ⟨s1, H1, W1, l1, m1, hF1, d1, e12, e13, e14, e15⟩ := nums_members hn ht m lR hRp hF { env := [(2, .own m.h.length 0 0), (3, .own (m.h.length + 1) 0 0), (4, .own (m.h.length + 2) 0 0), (5, .fn fn_tally_looked_numbers_1 [] [.own (m.h.length + 2) 0 0]), (12, i64 d.n), (13, i64 0)], m := { h := H } } (by simp) rfl rfl
  have hle := numsM_le d t d.n.toNat
  obtain ⟨s2, H2, W2, l2, m2, hF2, d2, e24⟩ := nums_proxies hs hr ht m lR hRp (by omega) (by omega) hF1 { s1 with env := [(2, .own m.h.length 0 0), (3, .own (m.h.length + 1) 0 0), (4, .own (m.h.length + 2) 0 0), (5, .fn fn_tally_looked_numbers_1 [] [.own (m.h.length + 2) 0 0]), (29, .r q), (30, i64 d.proxies.length), (31, i64 0)] } (by simp) m1 d1
  rw [m1] at l2
  obtain ⟨c1, k1⟩ := l1.get
  obtain ⟨c2, k2⟩ := l2.get
  have hX := hF.x
  have hX1 := hF1.x
  have hN := hF2.n
  rw [show d.proxies.foldl (proxStep d t) (numsM d t d.n.toNat) = numsL d t from rfl] at hN
  obtain ⟨N, hNN⟩ : ∃ N, N = numsL d t := ⟨_, rfl⟩
  rw [← hNN] at hN ⊢
  simp only [nmC] at hN
  have hlt := hF2.lt
  have l40 : (ints .u8 t).length = 40 := by rw [ints_len]; exact ht
  have hse : ∀ b : Blk, (H2.set (m.h.length + 2) b)[m.h.length + 2]? = some b := fun b => List.getElem?_set_self (by omega)
  refine CallR.eval (m1 := { h := H2.set (m.h.length + 2) (.cells [i64 N.1, i64 N.2] ty_tally_Numbers 0), wr := (m.h.length + 2) :: W2 }) rfl rfl prog_tally_looked_numbers rfl ⟨c1 + c2, fun k hk => ?_⟩ (by rw [List.take_set_of_le (by omega)]; exact hF2.tk) (by
    intro x hx
    rcases List.mem_cons.1 hx with rfl | hx
    · omega
    · exact hF2.wr x hx)
  simp [a_tally_looked_numbers, allR, AV.toR, ← hH, hX, rs_len, lR, hRn, k1 k (by omega), e12, e13, e14, e15, m1, hX1, hRq, hs.q.len, k2 k (by omega), e24, m2, hN, hse, d2, mkAgg]
end
end Go.AM.T
/- What the functions compute (own work). -/
namespace Go.AM.T
open Go Go.AM
attribute [local simp] so_mov so_pick so_alloc so_box so_build so_slit so_load so_store so_nilc so_bin so_beq so_eqs so_eqn so_eqnl so_not so_conv so_s2b so_mkfn so_slcA so_padd so_fld so_idxA so_idxV so_idxT so_look so_mupd so_mkmap so_mksl so_ext so_app so_lenT so_lenM so_min so_max so_cpy so_clr so_mkif so_tass so_lenS so_idxS so_slc
attribute [local simp] dn_skip dn_label dn_ret dn_exit dn_scope dn_keep dn_reg dn_draw0 noSlots denE denEI stepE  sd_mov sd_pick sd_build sd_load sd_store sd_nilc sd_bin sd_beq sd_eqs sd_eqn sd_eqnl sd_not sd_conv sd_s2b sd_mkfn sd_slc sd_slcA sd_padd sd_fld sd_idxS sd_idxA sd_idxV sd_idxT sd_look sd_mupd sd_ext sd_app sd_lenS sd_lenT sd_lenM sd_min sd_max sd_mkif sd_tass sd_call sd_slit dn_seq dn_cond dn_block dn_loop kn_call denIs denI denOp wants ev eget putD binL enumFrom AV.bool? AV.int? ekeep evs evp runV fin runDefs resAll resOf tupOf unit AV.cells okV ok1 Value.oneCell' fill setN rcells rs_nil rs_cons load_own load_cons mkAgg_rs storeN jmpOut
attribute [local simp] dvL dv1t dvAt mkAgg2 dv0 dv1 dv2 dv3 dv4 dv5 dv6 dv7 dv8 dv9 dv10 dvA dvN dvAll C_fz fzr
def carriedB (d : Div) (n : Int × Int) : Bool :=
  if d.rule = 0 then decide (n.2 < n.1) || (n.1 == n.2 && d.tie == 1)
  else if d.rule = 1 then decide (d.need ≤ n.1) || (n.1 == d.need - 1 && d.tie == 1)
  else decide (2 * (n.1 + n.2) ≤ 3 * n.1) && decide (1 ≤ n.1)
def outcomeI (d : Div) (n : Int × Int) : Int := if n.1 + n.2 < d.quorum then 2 else if carriedB d n then 1 else 0
def nmR (n : Int × Int) : RV := .agg [.lit (.int .i64 n.1), .lit (.int .i64 n.2)]
section
variable {d : Div} {a0 a1 n0 n1 p q : RV}
theorem rules1_spec (m : Mem) : CallR C (.r (.fn fn_tally_rules_1 [] [])) [.r (.agg (divC d a0 a1 n0 n1 p q))] m (.ret (bo (d.tie == 1)) m) := by
  obtain ⟨H, hH⟩ : ∃ H, H = m.h ++ [.cells (rs (divC d a0 a1 n0 n1 p q)) ty_tally_Division 0] := ⟨_, rfl⟩
  have hc : H[m.h.length]? = some (.cells (rs (divC d a0 a1 n0 n1 p q)) ty_tally_Division 0) := by simp [hH]
  have ht : H.take m.h.length = m.h := by simp [hH]
  exact CallR.eval (m1 := { h := H }) rfl rfl prog_tally_rules_1 rfl ⟨0, fun k hk => by simp [a_tally_rules_1, ← hH, hc]⟩ ht (by simp)
theorem rules2_spec (n : Int × Int) (m : Mem) : CallR C (.r (.fn fn_tally_rules_2 [] [.ptr [.fn fn_tally_rules_1 [] []]])) [.r (.agg (divC d a0 a1 n0 n1 p q)), .r (nmR n)] m (.ret (bo (decide (n.2 < n.1) || (n.1 == n.2 && d.tie == 1))) m) := by
  obtain ⟨H, hH⟩ : ∃ H, H = m.h ++ [.cells (rs (divC d a0 a1 n0 n1 p q)) ty_tally_Division 0, .cells [i64 n.1, i64 n.2] ty_tally_Numbers 0] := ⟨_, rfl⟩
  have hc : H[m.h.length]? = some (.cells (rs (divC d a0 a1 n0 n1 p q)) ty_tally_Division 0) := by simp [hH]
  have hc1 : H[m.h.length + 1]? = some (.cells [i64 n.1, i64 n.2] ty_tally_Numbers 0) := by simp [hH]
  have ht : H.take m.h.length = m.h := by simp [hH]
  obtain ⟨c1, k1⟩ := rules1_spec (d := d) (a0 := a0) (a1 := a1) (n0 := n0) (n1 := n1) (p := p) (q := q) { h := H }
  by_cases e1 : n.2 < n.1
  · exact CallR.eval (m1 := { h := H }) rfl rfl prog_tally_rules_2 rfl ⟨0, fun k hk => by simp [a_tally_rules_2, nmR, ← hH, hc, hc1, e1]⟩ ht (by simp)
  · cases e2 : (n.1 == n.2) with
    | true => exact CallR.eval (m1 := { h := H }) rfl rfl prog_tally_rules_2 rfl ⟨c1, fun k hk => by simp [a_tally_rules_2, nmR, ← hH, hc, hc1, e1, e2, k1 k hk]⟩ ht (by simp)
    | false => exact CallR.eval (m1 := { h := H }) rfl rfl prog_tally_rules_2 rfl ⟨c1, fun k hk => by simp [a_tally_rules_2, nmR, ← hH, hc, hc1, e1, e2]⟩ ht (by simp)
theorem rules3_spec (n : Int × Int) (hq : 0 ≤ d.need ∧ d.need ≤ 40) (m : Mem) : CallR C (.r (.fn fn_tally_rules_3 [] [.ptr [.fn fn_tally_rules_1 [] []]])) [.r (.agg (divC d a0 a1 n0 n1 p q)), .r (nmR n)] m (.ret (bo (decide (d.need ≤ n.1) || (n.1 == d.need - 1 && d.tie == 1))) m) := by
  obtain ⟨H, hH⟩ : ∃ H, H = m.h ++ [.cells (rs (divC d a0 a1 n0 n1 p q)) ty_tally_Division 0, .cells [i64 n.1, i64 n.2] ty_tally_Numbers 0] := ⟨_, rfl⟩
  have hc : H[m.h.length]? = some (.cells (rs (divC d a0 a1 n0 n1 p q)) ty_tally_Division 0) := by simp [hH]
  have hc1 : H[m.h.length + 1]? = some (.cells [i64 n.1, i64 n.2] ty_tally_Numbers 0) := by simp [hH]
  have ht : H.take m.h.length = m.h := by simp [hH]
  have w1 : IntKind.wrap .i64 (d.need - 1) = d.need - 1 := by rw [w64] <;> omega
  obtain ⟨c1, k1⟩ := rules1_spec (d := d) (a0 := a0) (a1 := a1) (n0 := n0) (n1 := n1) (p := p) (q := q) { h := H }
  by_cases e1 : d.need ≤ n.1
  · exact CallR.eval (m1 := { h := H }) rfl rfl prog_tally_rules_3 rfl ⟨0, fun k hk => by simp [a_tally_rules_3, nmR, ← hH, hc, hc1, e1]⟩ ht (by simp)
  · cases e2 : (n.1 == d.need - 1) with
    | true => exact CallR.eval (m1 := { h := H }) rfl rfl prog_tally_rules_3 rfl ⟨c1, fun k hk => by simp [a_tally_rules_3, nmR, ← hH, hc, hc1, e1, w1, e2, k1 k hk]⟩ ht (by simp)
    | false => exact CallR.eval (m1 := { h := H }) rfl rfl prog_tally_rules_3 rfl ⟨c1, fun k hk => by simp [a_tally_rules_3, nmR, ← hH, hc, hc1, e1, w1, e2]⟩ ht (by simp)
theorem rules4_spec (n : Int × Int) (h1 : 0 ≤ n.1 ∧ n.1 ≤ 1000) (h2 : 0 ≤ n.2 ∧ n.2 ≤ 1000) (m : Mem) : CallR C (.r (.fn fn_tally_rules_4 [] [])) [.r (.agg (divC d a0 a1 n0 n1 p q)), .r (nmR n)] m (.ret (bo (decide (2 * (n.1 + n.2) ≤ 3 * n.1) && decide (1 ≤ n.1))) m) := by
  obtain ⟨H, hH⟩ : ∃ H, H = m.h ++ [.cells (rs (divC d a0 a1 n0 n1 p q)) ty_tally_Division 0, .cells [i64 n.1, i64 n.2] ty_tally_Numbers 0] := ⟨_, rfl⟩
  have hc1 : H[m.h.length + 1]? = some (.cells [i64 n.1, i64 n.2] ty_tally_Numbers 0) := by simp [hH]
  have ht : H.take m.h.length = m.h := by simp [hH]
  have w1 : IntKind.wrap .i64 (3 * n.1) = 3 * n.1 := by rw [w64] <;> omega
  have w2 : IntKind.wrap .i64 (n.1 + n.2) = n.1 + n.2 := by rw [w64] <;> omega
  have w3 : IntKind.wrap .i64 (2 * (n.1 + n.2)) = 2 * (n.1 + n.2) := by rw [w64] <;> omega
  by_cases e1 : 2 * (n.1 + n.2) ≤ 3 * n.1
  · by_cases e2 : 1 ≤ n.1
    · exact CallR.eval (m1 := { h := H }) rfl rfl prog_tally_rules_4 rfl ⟨0, fun k hk => by simp [a_tally_rules_4, nmR, ← hH, hc1, e1, e2, w1, w2, w3]⟩ ht (by simp)
    · exact CallR.eval (m1 := { h := H }) rfl rfl prog_tally_rules_4 rfl ⟨0, fun k hk => by simp [a_tally_rules_4, nmR, ← hH, hc1, e1, e2, w1, w2, w3]⟩ ht (by simp)
  · exact CallR.eval (m1 := { h := H }) rfl rfl prog_tally_rules_4 rfl ⟨0, fun k hk => by simp [a_tally_rules_4, nmR, ← hH, hc1, e1, w1, w2, w3]⟩ ht (by simp)
theorem outcome_spec (hr : rightB d = true) (h0 : 0 ≤ d.rule) (n : Int × Int) (h1 : 0 ≤ n.1 ∧ n.1 ≤ 1000) (h2 : 0 ≤ n.2 ∧ n.2 ≤ 1000) (m : Mem) :
    CallR C (fnv fn_tally_looked_outcome) [.r (.agg (lookC d (divC d a0 a1 n0 n1 p q))), .r (nmR n)] m (.ret (u8 (outcomeI d n)) m) := by
  obtain ⟨-, -, hne, hqu, -, hru⟩ := right_len hr
  have lR : (lookC d (divC d a0 a1 n0 n1 p q)).length = 91 := lookC_len
  have hR9 : List.take 1 (List.drop 9 (rs (lookC d (divC d a0 a1 n0 n1 p q)))) = [i64 d.quorum] := rfl
  have hR7 : List.take 1 (List.drop 7 (rs (lookC d (divC d a0 a1 n0 n1 p q)))) = [u8 d.rule] := rfl
  have hR11 : List.take 11 (rs (lookC d (divC d a0 a1 n0 n1 p q))) = rs (divC d a0 a1 n0 n1 p q) := rfl
  obtain ⟨R, hRR⟩ : ∃ R, R = lookC d (divC d a0 a1 n0 n1 p q) := ⟨_, rfl⟩
  rw [← hRR] at lR hR9 hR7 hR11 ⊢
  obtain ⟨H, hH⟩ : ∃ H, H = m.h ++ [.cells (rs R) ty_tally_looked 0, .cells [i64 n.1, i64 n.2] ty_tally_Numbers 0] := ⟨_, rfl⟩
  have hc : H[m.h.length]? = some (.cells (rs R) ty_tally_looked 0) := by simp [hH]
  have hc1 : H[m.h.length + 1]? = some (.cells [i64 n.1, i64 n.2] ty_tally_Numbers 0) := by simp [hH]
  have ht : H.take m.h.length = m.h := by simp [hH]
  have w2 : IntKind.wrap .i64 (n.1 + n.2) = n.1 + n.2 := by rw [w64] <;> omega
  obtain ⟨c1, k1⟩ := rules_spec { h := H }
  unfold outcomeI
  by_cases e1 : n.1 + n.2 < d.quorum
  · rw [if_pos e1]
    exact CallR.eval (m1 := { h := H }) rfl rfl prog_tally_looked_outcome rfl ⟨0, fun k hk => by simp [a_tally_looked_outcome, nmR, ← hH, hc, hc1, rs_len, lR, hR9, w2, e1]⟩ ht (by simp)
  · rw [if_neg e1]
    have e1' : (n.1 + n.2 < d.quorum) = False := eq_false e1
    have hD : mkAgg (rs (divC d a0 a1 n0 n1 p q)) = .r (.agg (divC d a0 a1 n0 n1 p q)) := mkAgg_rs _
    have at0 : ∀ i : Int, i = 0 → atOf 1 (.r (.sl ruleFns 3 (some 3))) i = some (.r (.ptr ruleFns)) := fun i h => by subst h; rfl
    have at1 : ∀ i : Int, i = 1 → atOf 1 (.r (.sl ruleFns 3 (some 3))) i = some (.r (.ptr (ruleFns.drop 1))) := fun i h => by subst h; rfl
    have at2 : ∀ i : Int, i = 2 → atOf 1 (.r (.sl ruleFns 3 (some 3))) i = some (.r (.ptr (ruleFns.drop 2))) := fun i h => by subst h; rfl
    obtain ⟨c2, k2⟩ := rules2_spec (d := d) (a0 := a0) (a1 := a1) (n0 := n0) (n1 := n1) (p := p) (q := q) n { h := H }
    obtain ⟨c3, k3⟩ := rules3_spec (d := d) (a0 := a0) (a1 := a1) (n0 := n0) (n1 := n1) (p := p) (q := q) n hne { h := H }
    obtain ⟨c4, k4⟩ := rules4_spec (d := d) (a0 := a0) (a1 := a1) (n0 := n0) (n1 := n1) (p := p) (q := q) n h1 h2 { h := H }
    simp only [nmR] at k2 k3 k4
    simp only [ruleFns, List.drop_succ_cons, List.drop_zero] at k1 at0 at1 at2
    rcases (by omega : d.rule = 0 ∨ d.rule = 1 ∨ d.rule = 2) with e | e | e
    · have hcar : carriedB d n = (decide (n.2 < n.1) || (n.1 == n.2 && d.tie == 1)) := by simp [carriedB, e]
      rw [← hcar] at k2
      cases ec : carriedB d n <;> rw [ec] at k2
      all_goals exact CallR.eval (m1 := { h := H }) rfl rfl prog_tally_looked_outcome rfl ⟨c1 + c2, fun k hk => by simp [a_tally_looked_outcome, nmR, dn_drawF, denF, denFI, stepF, slotFree, slotOf, foot, avIdx, wrAll, pairsOk, apartL, ← hH, hc, hc1, rs_len, lR, hR9, hR7, hR11, w2, e1', k1 k (by omega), at0 _ e, k2 k (by omega)]⟩ ht (by simp)
    · have hcar : carriedB d n = (decide (d.need ≤ n.1) || (n.1 == d.need - 1 && d.tie == 1)) := by simp [carriedB, e]
      rw [← hcar] at k3
      cases ec : carriedB d n <;> rw [ec] at k3
      all_goals exact CallR.eval (m1 := { h := H }) rfl rfl prog_tally_looked_outcome rfl ⟨c1 + c3, fun k hk => by simp [a_tally_looked_outcome, nmR, dn_drawF, denF, denFI, stepF, slotFree, slotOf, foot, avIdx, wrAll, pairsOk, apartL, ← hH, hc, hc1, rs_len, lR, hR9, hR7, hR11, w2, e1', k1 k (by omega), at1 _ e, k3 k (by omega)]⟩ ht (by simp)
    · have hcar : carriedB d n = (decide (2 * (n.1 + n.2) ≤ 3 * n.1) && decide (1 ≤ n.1)) := by simp [carriedB, e]
      rw [← hcar] at k4
      cases ec : carriedB d n <;> rw [ec] at k4
      all_goals exact CallR.eval (m1 := { h := H }) rfl rfl prog_tally_looked_outcome rfl ⟨c1 + c4, fun k hk => by simp [a_tally_looked_outcome, nmR, dn_drawF, denF, denFI, stepF, slotFree, slotOf, foot, avIdx, wrAll, pairsOk, apartL, ← hH, hc, hc1, rs_len, lR, hR9, hR7, hR11, w2, e1', k1 k (by omega), at2 _ e, k4 k (by omega)]⟩ ht (by simp)
end
end Go.AM.T
/- What the functions compute (own work). -/
namespace Go.AM.T
open Go Go.AM
attribute [local simp] so_mov so_pick so_alloc so_box so_build so_slit so_load so_store so_nilc so_bin so_beq so_eqs so_eqn so_eqnl so_not so_conv so_s2b so_mkfn so_slcA so_padd so_fld so_idxA so_idxV so_idxT so_look so_mupd so_mkmap so_mksl so_ext so_app so_lenT so_lenM so_min so_max so_cpy so_clr so_mkif so_tass so_lenS so_idxS so_slc
attribute [local simp] dn_skip dn_label dn_ret dn_exit dn_scope dn_keep dn_reg dn_draw0 noSlots denE denEI stepE  sd_mov sd_pick sd_build sd_load sd_store sd_nilc sd_bin sd_beq sd_eqs sd_eqn sd_eqnl sd_not sd_conv sd_s2b sd_mkfn sd_slc sd_slcA sd_padd sd_fld sd_idxS sd_idxA sd_idxV sd_idxT sd_look sd_mupd sd_ext sd_app sd_lenS sd_lenT sd_lenM sd_min sd_max sd_mkif sd_tass sd_call sd_slit dn_seq dn_cond dn_block dn_loop kn_call denIs denI denOp wants ev eget putD binL enumFrom AV.bool? AV.int? ekeep evs evp runV fin runDefs resAll resOf tupOf unit AV.cells okV ok1 Value.oneCell' fill setN rcells rs_nil rs_cons load_own load_cons mkAgg_rs storeN jmpOut
attribute [local simp] dvL dv1t dvAt mkAgg2 dv0 dv1 dv2 dv3 dv4 dv5 dv6 dv7 dv8 dv9 dv10 dvA dvN dvAll C_fz fzr
def two (a b : Int) : RV := .sl [.lit (.int .i64 a), .lit (.int .i64 b)] 2 (some 2)
theorem Min2_spec (a b : Int) (m : Mem) : CallR C (fnv fn_slices_Min_Sint_int) [.r (two a b)] m (.ret (i64 (if b < a then b else a)) m) := by
  refine CallR.eval0 rfl rfl prog_slices_Min_Sint_int rfl ⟨5, fun k hk => ?_⟩
  obtain ⟨j, rfl⟩ : ∃ j, k = j + 5 := ⟨k - 5, by omega⟩
  by_cases e : b < a <;> simp [a_slices_Min_Sint_int, two, goLoop, kn_iter, iterN, l_slices_Min_Sint_int_0, lenOf_sl, atOf, wk1, wk2, e]
theorem Max2_spec (a b : Int) (m : Mem) : CallR C (fnv fn_slices_Max_Sint_int) [.r (two a b)] m (.ret (i64 (if b > a then b else a)) m) := by
  refine CallR.eval0 rfl rfl prog_slices_Max_Sint_int rfl ⟨5, fun k hk => ?_⟩
  obtain ⟨j, rfl⟩ : ∃ j, k = j + 5 := ⟨k - 5, by omega⟩
  by_cases e : b > a
  · have e' : a < b := e
    simp [a_slices_Max_Sint_int, two, goLoop, kn_iter, iterN, l_slices_Max_Sint_int_0, lenOf_sl, atOf, wk1, wk2, e']
  · have e' : ¬ a < b := e
    simp [a_slices_Max_Sint_int, two, goLoop, kn_iter, iterN, l_slices_Max_Sint_int_0, lenOf_sl, atOf, wk1, wk2, e']
theorem least_spec (a b : Int) (m : Mem) : CallR C (fnv fn_tally_least) [.r (two a b)] m (.ret (i64 (if b < a then b else a)) m) := by
  obtain ⟨c, k⟩ := Min2_spec a b { h := m.h }
  obtain ⟨T, hT⟩ : ∃ T, T = two a b := ⟨_, rfl⟩
  obtain ⟨z, hz⟩ : ∃ z, z = (if b < a then b else a) := ⟨_, rfl⟩
  rw [← hT, ← hz] at k
  rw [← hT, ← hz]
  exact CallR.eval0 rfl rfl prog_tally_least rfl ⟨c, fun n hn => by simp [a_tally_least, k n hn]⟩
theorem greatest_spec (a b : Int) (m : Mem) : CallR C (fnv fn_tally_greatest) [.r (two a b)] m (.ret (i64 (if b > a then b else a)) m) := by
  obtain ⟨c, k⟩ := Max2_spec a b { h := m.h }
  obtain ⟨T, hT⟩ : ∃ T, T = two a b := ⟨_, rfl⟩
  obtain ⟨z, hz⟩ : ∃ z, z = (if b > a then b else a) := ⟨_, rfl⟩
  rw [← hT, ← hz] at k
  rw [← hT, ← hz]
  exact CallR.eval0 rfl rfl prog_tally_greatest rfl ⟨c, fun n hn => by simp [a_tally_greatest, k n hn]⟩
end Go.AM.T
/- What the functions compute (own work). -/
namespace Go.AM.T
open Go Go.AM
attribute [local simp] so_mov so_pick so_alloc so_box so_build so_slit so_load so_store so_nilc so_bin so_beq so_eqs so_eqn so_eqnl so_not so_conv so_s2b so_mkfn so_slcA so_padd so_fld so_idxA so_idxV so_idxT so_look so_mupd so_mkmap so_mksl so_ext so_app so_lenT so_lenM so_min so_max so_cpy so_clr so_mkif so_tass so_lenS so_idxS so_slc
attribute [local simp] dn_skip dn_label dn_ret dn_exit dn_scope dn_keep dn_reg dn_draw0 noSlots denE denEI stepE  sd_mov sd_pick sd_build sd_load sd_store sd_nilc sd_bin sd_beq sd_eqs sd_eqn sd_eqnl sd_not sd_conv sd_s2b sd_mkfn sd_slc sd_slcA sd_padd sd_fld sd_idxS sd_idxA sd_idxV sd_idxT sd_look sd_mupd sd_ext sd_app sd_lenS sd_lenT sd_lenM sd_min sd_max sd_mkif sd_tass sd_call sd_slit dn_seq dn_cond dn_block dn_loop kn_call denIs denI denOp wants ev eget putD binL enumFrom AV.bool? AV.int? ekeep evs evp runV fin runDefs resAll resOf tupOf unit AV.cells okV ok1 Value.oneCell' fill setN rcells rs_nil rs_cons load_own load_cons mkAgg_rs storeN jmpOut
attribute [local simp] dvL dv1t dvAt mkAgg2 dv0 dv1 dv2 dv3 dv4 dv5 dv6 dv7 dv8 dv9 dv10 dvA dvN dvAll C_fz fzr
def mn (a b : Int) : Int := if b < a then b else a
def mx (a b : Int) : Int := if b > a then b else a
/-- What the bounds' loop has: whether it is the first truth, both ranges, the last numbers. -/
structure Bn where
  first : Bool
  a : Int × Int
  b : Int × Int
  last : Int × Int
def bnStep (d : Div) (s : Bn) (t : List Int) : Bn × Bool :=
  if s.first then (⟨false, ((numsL d t).1, (numsL d t).1), ((numsL d t).2, (numsL d t).2), numsL d t⟩, true)
  else if numsL d t = s.last then (⟨false, s.a, s.b, numsL d t⟩, true)
  else (⟨false, (mn s.a.1 (numsL d t).1, mx s.a.2 (numsL d t).1), (mn s.b.1 (numsL d t).2, mx s.b.2 (numsL d t).2), numsL d t⟩, true)
def bnEnv (L : Nat) (R : List RV) : Env := [(2, .own (L + 1) 0 0), (3, .own (L + 2) 0 0), (4, i64 0), (5, .own (L + 3) 0 0), (6, .own (L + 4) 0 0), (7, .own (L + 5) 0 0), (21, .r (.fn fn_tally_looked_truths_1 [] [.ptr R]))]
structure HBn (m : Mem) (R : List RV) (s : Bn) (st : LSt) (H : List Blk) : Prop where
  a : H[m.h.length + 1]? = some (.cells (nmC s.a) ty_tally_Range 0)
  b : H[m.h.length + 2]? = some (.cells (nmC s.b) ty_tally_Range 0)
  x : H[m.h.length + 3]? = some (.cells (rs R) ty_tally_looked 0)
  l : H[m.h.length + 4]? = some (.cells (nmC s.last) ty_tally_Numbers 0)
  f : H[m.h.length + 5]? = some (.cells [bo s.first] ty_bool 0)
  d : H[m.h.length + 6]? = some .dfr
  lp : H[m.h.length + 7]? = some (.loop (bnEnv m.h.length R) [22] s_tally_Bounds_0 b_tally_Bounds_0 st none)
  tk : H.take m.h.length = m.h
section
variable {d : Div} {a0 a1 n0 n1 p q : RV}
theorem bnd_body (hs : DivS d a0 a1 n0 n1 p q) (hr : rightB d = true) {t : List Int} (ht : TOk t) (m : Mem) {R : List RV} (hR : R = lookC d (divC d a0 a1 n0 n1 p q)) {s : Bn} {Hb : List Blk} (hF : HBn m R s .busy Hb) {T : Nat} (hT : Hb[T]? = some (.cells (rs (ints .u8 t)) ty_tally_truth 0)) (W : List Nat) :
    ∃ s2, Den C b_tally_Bounds_0 { env := (8, .own T 0 0) :: (22, .r (.agg (ints .u8 t))) :: bnEnv m.h.length R, m := { h := Hb, wr := W }, round := some (m.h.length + 7) } .norm s2 ∧ HBn m R (bnStep d s t).1 .busy s2.m.h ∧
      (∀ j, m.h.length + 8 ≤ j → j < Hb.length → s2.m.h[j]? = Hb[j]?) ∧ Hb.length ≤ s2.m.h.length ∧ (∀ x ∈ s2.m.wr, x ∈ W ∨ x ∈ [m.h.length + 1, m.h.length + 2, m.h.length + 4, m.h.length + 5] ∨ Hb.length ≤ x) ∧ s2.round = some (m.h.length + 7) ∧ s2.defs = [] := by
  have lR : R.length = 91 := by rw [hR]; exact lookC_len
  have tR : List.take 91 (rs R) = rs R := List.take_of_length_le (by rw [rs_len]; omega)
  have l40 : (ints .u8 t).length = 40 := by rw [ints_len]; exact ht.1
  have t40 : List.take 40 (rs (ints .u8 t)) = rs (ints .u8 t) := List.take_of_length_le (by rw [rs_len]; omega)
  have hlt := getElem?_lt hF.lp
  obtain ⟨c1, k1⟩ := numbers_spec hs hr ht.1 { h := Hb, wr := W }
  rw [← hR] at k1
  obtain ⟨I, hI⟩ : ∃ I, I = ints .u8 t := ⟨_, rfl⟩
  obtain ⟨n, hn⟩ : ∃ n, n = numsL d t := ⟨_, rfl⟩
  rw [← hI] at k1 hT l40 t40 ⊢
  rw [← hn] at k1
  obtain ⟨H2, hH2⟩ : ∃ H2, H2 = Hb ++ [.cells [i64 n.1, i64 n.2] ty_tally_Numbers 0] := ⟨_, rfl⟩
  have up : ∀ j, j < Hb.length → H2[j]? = Hb[j]? := fun j hj => by rw [hH2, List.getElem?_append_left hj]
  have gA : H2[m.h.length + 1]? = some (.cells (nmC s.a) ty_tally_Range 0) := by rw [up _ (by omega)]; exact hF.a
  have gB : H2[m.h.length + 2]? = some (.cells (nmC s.b) ty_tally_Range 0) := by rw [up _ (by omega)]; exact hF.b
  have gL : H2[m.h.length + 4]? = some (.cells (nmC s.last) ty_tally_Numbers 0) := by rw [up _ (by omega)]; exact hF.l
  have gF : H2[m.h.length + 5]? = some (.cells [bo s.first] ty_bool 0) := by rw [up _ (by omega)]; exact hF.f
  have g9 : H2[Hb.length]? = some (.cells [i64 n.1, i64 n.2] ty_tally_Numbers 0) := by simp [hH2]
  have hX := hF.x
  have ne1 : (m.h.length + 1 = Hb.length) = False := eq_false (by omega)
  have ne2 : (m.h.length + 2 = Hb.length) = False := eq_false (by omega)
  have ne4 : (m.h.length + 4 = Hb.length) = False := eq_false (by omega)
  have ne5 : (m.h.length + 5 = Hb.length) = False := eq_false (by omega)
  have l2 : H2.length = Hb.length + 1 := by simp [hH2]
  simp only [nmC] at gA gB gL
  have key : ∀ (X : List Blk) (W' : List Nat) (s' : Bn), s' = (bnStep d s t).1 → X.length = Hb.length + 1 → (∀ j, j ∉ [m.h.length + 1, m.h.length + 2, m.h.length + 4, m.h.length + 5] → X[j]? = H2[j]?) → X[m.h.length + 1]? = some (.cells (nmC s'.a) ty_tally_Range 0) → X[m.h.length + 2]? = some (.cells (nmC s'.b) ty_tally_Range 0) →
      X[m.h.length + 4]? = some (.cells (nmC s'.last) ty_tally_Numbers 0) → X[m.h.length + 5]? = some (.cells [bo s'.first] ty_bool 0) →
      HBn m R (bnStep d s t).1 .busy X ∧ (∀ j, m.h.length + 8 ≤ j → j < Hb.length → X[j]? = Hb[j]?) ∧ Hb.length ≤ X.length := by
    intro X W' s' hs' hl hj hA hB hL hFf
    subst hs'
    refine ⟨⟨hA, hB, ?_, hL, hFf, ?_, ?_, ?_⟩, fun j h1 h2 => ?_, by omega⟩
    · rw [hj _ (by simp), up _ (by omega)]; exact hF.x
    · rw [hj _ (by simp), up _ (by omega)]; exact hF.d
    · rw [hj _ (by simp), up _ (by omega)]; exact hF.lp
    · rw [← hF.tk]
      refine List.ext_getElem? fun j => ?_
      have hml : (List.take m.h.length Hb).length = m.h.length := by rw [List.length_take]; omega
      rw [hml]
      by_cases h : j < m.h.length
      · rw [List.getElem?_take_of_lt h, List.getElem?_take_of_lt h, hj _ (by simp; omega), up _ (by omega)]
      · rw [List.getElem?_eq_none (by simp; omega), List.getElem?_eq_none (by simp; omega)]
    · rw [hj _ (by simp; omega), up _ h2]
  cases e : s.first with
  | true =>
    rw [e] at gF
    have hst : (⟨false, (n.1, n.1), (n.2, n.2), n⟩ : Bn) = (bnStep d s t).1 := by simp [bnStep, e, hn]
    obtain ⟨H3, hH3⟩ : ∃ H3, H3 = H2.set (m.h.length + 1) (.cells [i64 n.1, i64 n.1] ty_tally_Range 0) := ⟨_, rfl⟩
    obtain ⟨H4, hH4⟩ : ∃ H4, H4 = H3.set (m.h.length + 2) (.cells [i64 n.2, i64 n.2] ty_tally_Range 0) := ⟨_, rfl⟩
    obtain ⟨H5, hH5⟩ : ∃ H5, H5 = H4.set (m.h.length + 5) (.cells [bo false] ty_bool 0) := ⟨_, rfl⟩
    obtain ⟨H6, hH6⟩ : ∃ H6, H6 = H5.set (m.h.length + 4) (.cells [i64 n.1, i64 n.2] ty_tally_Numbers 0) := ⟨_, rfl⟩
    have l3 : H3.length = Hb.length + 1 := by simp [hH3, l2]
    have l4 : H4.length = Hb.length + 1 := by simp [hH4, l3]
    have l5 : H5.length = Hb.length + 1 := by simp [hH5, l4]
    have l6 : H6.length = Hb.length + 1 := by simp [hH6, l5]
    have q3 : H3.length = H2.length := by simp [hH3]
    have q4 : H4.length = H2.length := by simp [hH4, hH3]
    have q5 : H5.length = H2.length := by simp [hH5, hH4, hH3]
    have b3 : H3[m.h.length + 2]? = some (.cells [i64 s.b.1, i64 s.b.2] ty_tally_Range 0) := by rw [hH3, List.getElem?_set_ne (by omega)]; exact gB
    have f4 : H4[m.h.length + 5]? = some (.cells [bo true] ty_bool 0) := by rw [hH4, List.getElem?_set_ne (by omega), hH3, List.getElem?_set_ne (by omega)]; exact gF
    have t5 : H5[Hb.length]? = some (.cells [i64 n.1, i64 n.2] ty_tally_Numbers 0) := by rw [hH5, List.getElem?_set_ne (by omega), hH4, List.getElem?_set_ne (by omega), hH3, List.getElem?_set_ne (by omega)]; exact g9
    have m5 : H5[m.h.length + 4]? = some (.cells [i64 s.last.1, i64 s.last.2] ty_tally_Numbers 0) := by rw [hH5, List.getElem?_set_ne (by omega), hH4, List.getElem?_set_ne (by omega), hH3, List.getElem?_set_ne (by omega)]; exact gL
    have ne1' : (Hb.length = m.h.length + 1) = False := eq_false (by omega)
    have ne2' : (Hb.length = m.h.length + 2) = False := eq_false (by omega)
    have ne5' : (Hb.length = m.h.length + 5) = False := eq_false (by omega)
    refine ⟨_, .ofN ⟨c1, fun k hk => by
      simp [b_tally_Bounds_0, bnEnv, dn_drawF, denF, denFI, stepF, slotFree, slotOf, foot, avIdx, wrAll, pairsOk, apartL, hX, hT, rs_len, lR, tR, l40, t40, k1 k hk, ← hH2, g9, gA, gF, q3, q4, q5, ne1, ne2, ne4, ne5, ne1', ne2', ne5', ← hH3, b3, ← hH4, f4, ← hH5, t5, m5, ← hH6]
      rfl⟩, ?_⟩
    have hk := key H6 [] _ hst l6 (fun j hj => by
      simp at hj
      rw [hH6, List.getElem?_set_ne (by omega), hH5, List.getElem?_set_ne (by omega), hH4, List.getElem?_set_ne (by omega), hH3, List.getElem?_set_ne (by omega)])
      (by rw [hH6, List.getElem?_set_ne (by omega), hH5, List.getElem?_set_ne (by omega), hH4, List.getElem?_set_ne (by omega), hH3, List.getElem?_set_self (by omega)]; rfl)
      (by rw [hH6, List.getElem?_set_ne (by omega), hH5, List.getElem?_set_ne (by omega), hH4, List.getElem?_set_self (by omega)]; rfl)
      (by rw [hH6, List.getElem?_set_self (by omega)]; rfl)
      (by rw [hH6, List.getElem?_set_ne (by omega), hH5, List.getElem?_set_self (by omega)])
    refine ⟨hk.1, hk.2.1, hk.2.2, fun x hx => ?_, rfl, rfl⟩
    simp only [List.mem_cons] at hx
    rcases hx with rfl | rfl | rfl | rfl | rfl | hx
    all_goals first
      | exact .inl hx
      | (right; left; simp; done)
      | (right; right; omega)
  | false =>
    rw [e] at gF
    by_cases e2 : n = s.last
    · have hst : (⟨false, s.a, s.b, n⟩ : Bn) = (bnStep d s t).1 := by simp [bnStep, e, ← hn, e2]
      have x1 : (n.1 == s.last.1) = true := by rw [e2]; simp
      have x2 : (n.2 == s.last.2) = true := by rw [e2]; simp
      obtain ⟨H6, hH6⟩ : ∃ H6, H6 = H2.set (m.h.length + 4) (.cells [i64 n.1, i64 n.2] ty_tally_Numbers 0) := ⟨_, rfl⟩
      have l6 : H6.length = Hb.length + 1 := by simp [hH6, l2]
      refine ⟨_, .ofN ⟨c1, fun k hk => by
        simp [b_tally_Bounds_0, bnEnv, hX, hT, rs_len, lR, tR, l40, t40, k1 k hk, ← hH2, g9, gA, gL, gF, rvEqs, rvEq, x1, x2, ← hH6]
        rfl⟩, ?_⟩
      have hk := key H6 [] _ hst l6 (fun j hj => by
        simp at hj
        rw [hH6, List.getElem?_set_ne (by omega)])
        (by rw [hH6, List.getElem?_set_ne (by omega)]; exact gA)
        (by rw [hH6, List.getElem?_set_ne (by omega)]; exact gB)
        (by rw [hH6, List.getElem?_set_self (by omega)]; rfl)
        (by rw [hH6, List.getElem?_set_ne (by omega)]; exact gF)
      refine ⟨hk.1, hk.2.1, hk.2.2, fun x hx => ?_, rfl, rfl⟩
      simp only [List.mem_cons] at hx
      rcases hx with rfl | rfl | hx
      all_goals first
        | exact .inl hx
        | (right; left; simp; done)
        | (right; right; omega)
    · have hst : (⟨false, (mn s.a.1 n.1, mx s.a.2 n.1), (mn s.b.1 n.2, mx s.b.2 n.2), n⟩ : Bn) = (bnStep d s t).1 := by simp [bnStep, e, ← hn, e2]
      have x12 : ((n.1 == s.last.1) && (n.2 == s.last.2)) = false := by
        cases h : ((n.1 == s.last.1) && (n.2 == s.last.2)) with
        | false => rfl
        | true =>
          simp at h
          exact absurd (Prod.ext h.1 h.2) e2
      obtain ⟨alo, halo⟩ : ∃ z, z = mn s.a.1 n.1 := ⟨_, rfl⟩
      obtain ⟨ahi, hahi⟩ : ∃ z, z = mx s.a.2 n.1 := ⟨_, rfl⟩
      obtain ⟨blo, hblo⟩ : ∃ z, z = mn s.b.1 n.2 := ⟨_, rfl⟩
      obtain ⟨bhi, hbhi⟩ : ∃ z, z = mx s.b.2 n.2 := ⟨_, rfl⟩
      rw [← halo, ← hahi, ← hblo, ← hbhi] at hst
      obtain ⟨H3, hH3⟩ : ∃ H3, H3 = H2.set (m.h.length + 1) (.cells [i64 alo, i64 ahi] ty_tally_Range 0) := ⟨_, rfl⟩
      obtain ⟨H4, hH4⟩ : ∃ H4, H4 = H3.set (m.h.length + 2) (.cells [i64 blo, i64 bhi] ty_tally_Range 0) := ⟨_, rfl⟩
      obtain ⟨H6, hH6⟩ : ∃ H6, H6 = H4.set (m.h.length + 4) (.cells [i64 n.1, i64 n.2] ty_tally_Numbers 0) := ⟨_, rfl⟩
      have l6 : H6.length = Hb.length + 1 := by simp [hH6, hH4, hH3, l2]
      have q3 : H3.length = H2.length := by simp [hH3]
      have q4 : H4.length = H2.length := by simp [hH4, hH3]
      have b3 : H3[m.h.length + 2]? = some (.cells [i64 s.b.1, i64 s.b.2] ty_tally_Range 0) := by rw [hH3, List.getElem?_set_ne (by omega)]; exact gB
      have t3 : H3[Hb.length]? = some (.cells [i64 n.1, i64 n.2] ty_tally_Numbers 0) := by rw [hH3, List.getElem?_set_ne (by omega)]; exact g9
      have t4 : H4[Hb.length]? = some (.cells [i64 n.1, i64 n.2] ty_tally_Numbers 0) := by rw [hH4, List.getElem?_set_ne (by omega)]; exact t3
      have m4 : H4[m.h.length + 4]? = some (.cells [i64 s.last.1, i64 s.last.2] ty_tally_Numbers 0) := by rw [hH4, List.getElem?_set_ne (by omega), hH3, List.getElem?_set_ne (by omega)]; exact gL
      obtain ⟨c2, k2⟩ := least_spec s.a.1 n.1 { h := H2 }
      obtain ⟨c3, k3⟩ := greatest_spec s.a.2 n.1 { h := H2 }
      obtain ⟨c4, k4⟩ := least_spec s.b.1 n.2 { h := H3 }
      obtain ⟨c5, k5⟩ := greatest_spec s.b.2 n.2 { h := H3 }
      rw [show (if n.1 < s.a.1 then n.1 else s.a.1) = alo from halo.symm] at k2
      rw [show (if n.1 > s.a.2 then n.1 else s.a.2) = ahi from hahi.symm] at k3
      rw [show (if n.2 < s.b.1 then n.2 else s.b.1) = blo from hblo.symm] at k4
      rw [show (if n.2 > s.b.2 then n.2 else s.b.2) = bhi from hbhi.symm] at k5
      simp only [two] at k2 k3 k4 k5
      have hk := key H6 [] _ hst l6 (fun j hj => by
        simp at hj
        rw [hH6, List.getElem?_set_ne (by omega), hH4, List.getElem?_set_ne (by omega), hH3, List.getElem?_set_ne (by omega)])
        (by rw [hH6, List.getElem?_set_ne (by omega), hH4, List.getElem?_set_ne (by omega), hH3, List.getElem?_set_self (by omega)]; rfl)
        (by rw [hH6, List.getElem?_set_ne (by omega), hH4, List.getElem?_set_self (by omega)]; rfl)
        (by rw [hH6, List.getElem?_set_self (by omega)]; rfl)
        (by rw [hH6, List.getElem?_set_ne (by omega), hH4, List.getElem?_set_ne (by omega), hH3, List.getElem?_set_ne (by omega)]; exact gF)
      have ne1' : (Hb.length = m.h.length + 1) = False := eq_false (by omega)
      have ne2' : (Hb.length = m.h.length + 2) = False := eq_false (by omega)
      cases x1 : (n.1 == s.last.1) <;> cases x2 : (n.2 == s.last.2)
      case true.true => rw [x1, x2] at x12; cases x12
      all_goals
        refine ⟨_, .ofN ⟨c1 + c2 + c3 + c4 + c5, fun k hk => by
          simp [b_tally_Bounds_0, bnEnv, dn_drawF, denF, denFI, stepF, slotFree, slotOf, foot, avIdx, wrAll, pairsOk, apartL, hX, hT, rs_len, lR, tR, l40, t40, k1 k (by omega), k2 k (by omega), k3 k (by omega), k4 k (by omega), k5 k (by omega), ← hH2, g9, gA, gL, gF, q3, q4, rvEqs, rvEq, x1, x2, allR, AV.toR, repl, ← hH3, b3, t3, ← hH4, t4, m4, ← hH6, ne1, ne2, ne1', ne2']
          rfl⟩, ?_⟩
        refine ⟨hk.1, hk.2.1, hk.2.2, fun x hx => ?_, rfl, rfl⟩
        simp only [List.mem_cons] at hx
        rcases hx with rfl | rfl | rfl | rfl | hx
        all_goals first
          | exact .inl hx
          | (right; left; simp; done)
          | (right; right; omega)
end
end Go.AM.T
/- What the functions compute (own work). -/
namespace Go.AM.T
open Go Go.AM
attribute [local simp] so_mov so_pick so_alloc so_box so_build so_slit so_load so_store so_nilc so_bin so_beq so_eqs so_eqn so_eqnl so_not so_conv so_s2b so_mkfn so_slcA so_padd so_fld so_idxA so_idxV so_idxT so_look so_mupd so_mkmap so_mksl so_ext so_app so_lenT so_lenM so_min so_max so_cpy so_clr so_mkif so_tass so_lenS so_idxS so_slc
attribute [local simp] dn_skip dn_label dn_ret dn_exit dn_scope dn_keep dn_reg dn_draw0 noSlots denE denEI stepE  sd_mov sd_pick sd_build sd_load sd_store sd_nilc sd_bin sd_beq sd_eqs sd_eqn sd_eqnl sd_not sd_conv sd_s2b sd_mkfn sd_slc sd_slcA sd_padd sd_fld sd_idxS sd_idxA sd_idxV sd_idxT sd_look sd_mupd sd_ext sd_app sd_lenS sd_lenT sd_lenM sd_min sd_max sd_mkif sd_tass sd_call sd_slit dn_seq dn_cond dn_block dn_loop kn_call denIs denI denOp wants ev eget putD binL enumFrom AV.bool? AV.int? ekeep evs evp runV fin runDefs resAll resOf tupOf unit AV.cells okV ok1 Value.oneCell' fill setN rcells rs_nil rs_cons load_own load_cons mkAgg_rs storeN jmpOut
attribute [local simp] dvL dv1t dvAt mkAgg2 dv0 dv1 dv2 dv3 dv4 dv5 dv6 dv7 dv8 dv9 dv10 dvA dvN dvAll C_fz fzr
theorem bnStep_2 (d : Div) (s : Bn) (t : List Int) : (bnStep d s t).2 = true := by unfold bnStep; split <;> (try split) <;> rfl
theorem HBn.turn {m : Mem} {R : List RV} {s : Bn} {st st' : LSt} {H : List Blk} (h : HBn m R s st H) : HBn m R s st' (H.set (m.h.length + 7) (.loop (bnEnv m.h.length R) [22] s_tally_Bounds_0 b_tally_Bounds_0 st' none)) := by
  have hl := getElem?_lt h.lp
  refine ⟨?_, ?_, ?_, ?_, ?_, ?_, List.getElem?_set_self hl, ?_⟩
  · rw [List.getElem?_set_ne (by omega)]; exact h.a
  · rw [List.getElem?_set_ne (by omega)]; exact h.b
  · rw [List.getElem?_set_ne (by omega)]; exact h.x
  · rw [List.getElem?_set_ne (by omega)]; exact h.l
  · rw [List.getElem?_set_ne (by omega)]; exact h.f
  · rw [List.getElem?_set_ne (by omega)]; exact h.d
  · rw [List.take_set_of_le (by omega)]; exact h.tk
/-- It hangs on its own blocks. -/
theorem HBn.of {m : Mem} {R : List RV} {s : Bn} {st : LSt} {H H' : List Blk} (h : HBn m R s st H) (hl : m.h.length + 8 ≤ H'.length) (hj : ∀ j, j < m.h.length + 8 → H'[j]? = H[j]?) : HBn m R s st H' := by
  refine ⟨?_, ?_, ?_, ?_, ?_, ?_, ?_, ?_⟩
  · rw [hj _ (by omega)]; exact h.a
  · rw [hj _ (by omega)]; exact h.b
  · rw [hj _ (by omega)]; exact h.x
  · rw [hj _ (by omega)]; exact h.l
  · rw [hj _ (by omega)]; exact h.f
  · rw [hj _ (by omega)]; exact h.d
  · rw [hj _ (by omega)]; exact h.lp
  · have hl' := getElem?_lt h.lp
    have hml : (List.take m.h.length H).length = m.h.length := by rw [List.length_take]; omega
    have ht := h.tk
    refine Eq.trans ?_ ht
    refine List.ext_getElem? fun j => ?_
    by_cases h1 : j < m.h.length
    · rw [List.getElem?_take_of_lt h1, List.getElem?_take_of_lt h1, hj _ (by omega)]
    · rw [List.getElem?_eq_none (by simp; omega), List.getElem?_eq_none (by simp; omega)]
section
variable {d : Div} {a0 a1 n0 n1 p q : RV}
theorem bnd_yld {N : Nat} (hs : DivS d a0 a1 n0 n1 p q) (hr : rightB d = true) (m : Mem) {R : List RV} (hR : R = lookC d (divC d a0 a1 n0 n1 p q)) :
    YldOk (fun _ => true) (fun _ => 0) N (m.h.length + 7) (m.h.length + 8) m.h.length (fun s H F => F = [] ∧ HBn m R s .ready H) (bnStep d) where
  le := by omega
  al := fun s t => (bnStep_2 d s t).symm
  rk := fun s t => by omega
  frame := fun s H H' F ⟨h1, h2⟩ hl hj => ⟨h1, h2.of (by have := getElem?_lt h2.lp; omega) fun j h => hj j (by have := getElem?_lt h2.lp; omega) (.inl h)⟩
  lt := fun s H F ⟨h1, _⟩ j hj => by subst h1; cases hj
  call := by
    rintro s H W F t _ _ ht ⟨rfl, hF⟩ hlen
    have l40 : (ints .u8 t).length = 40 := by rw [ints_len]; exact ht.1
    have hHl := getElem?_lt hF.lp
    obtain ⟨H1, hH1⟩ : ∃ H1, H1 = H ++ [.cells (rs (ints .u8 t)) ty_tally_truth 0] := ⟨_, rfl⟩
    have hF1 : HBn m R s .ready H1 := hF.of (by simp [hH1]; omega) fun j hj => by rw [hH1, List.getElem?_append_left (by omega)]
    have hF2 := hF1.turn (st' := .busy)
    obtain ⟨Hb, hHb⟩ : ∃ Hb, Hb = H1.set (m.h.length + 7) (.loop (bnEnv m.h.length R) [22] s_tally_Bounds_0 b_tally_Bounds_0 .busy none) := ⟨_, rfl⟩
    rw [← hHb] at hF2
    have hbl : Hb.length = H.length + 1 := by simp [hHb, hH1]
    have hT : Hb[H.length]? = some (.cells (rs (ints .u8 t)) ty_tally_truth 0) := by rw [hHb, List.getElem?_set_ne (by omega), hH1]; simp
    obtain ⟨s2, k2, hG, hfr, hl2, hw2, hro, hde⟩ := bnd_body hs hr ht m hR hF2 hT [m.h.length + 7, H.length]
    obtain ⟨X, hX⟩ : ∃ X, X = s2.m.h.set (m.h.length + 7) (.loop (bnEnv m.h.length R) [22] s_tally_Bounds_0 b_tally_Bounds_0 .ready none) := ⟨_, rfl⟩
    have hGX : HBn m R (bnStep d s t).1 .ready X := by rw [hX]; exact hG.turn
    have hXl : X.length = s2.m.h.length := by simp [hX]
    have lt0env : lt0s H.length ((bnEnv m.h.length R).map (·.2)) = true := by
      simp [bnEnv, lt0s, lt0]; omega
    have hset : Go.AM.settle C.fz false { h := H, wr := W } (bo true) { h := X, wr := (m.h.length + 7) :: s2.m.wr } = (bo true, { h := X.take H.length, wr := oldWr H.length ((m.h.length + 7) :: s2.m.wr) ++ W }) := by
      refine settle_w rfl fun i hi hil b hb => ?_
      have hmem : i = m.h.length + 7 ∨ i = m.h.length + 1 ∨ i = m.h.length + 2 ∨ i = m.h.length + 4 ∨ i = m.h.length + 5 := by
        rcases List.mem_cons.1 hi with rfl | hi
        · exact .inl rfl
        · rcases hw2 i hi with h | h | h
          · simp only [List.mem_cons, List.not_mem_nil, or_false] at h
            rcases h with h | h
            · exact .inl h
            · have hil' : i < H.length := hil
              omega
          · simp only [List.mem_cons, List.not_mem_nil, or_false] at h
            omega
          · have hil' : i < H.length := hil
            omega
      have hb' : X[i]? = some b := hb
      rcases hmem with rfl | rfl | rfl | rfl | rfl
      · rw [hGX.lp] at hb'; cases hb'; exact lt0env
      · rw [hGX.a] at hb'; cases hb'; rfl
      · rw [hGX.b] at hb'; cases hb'; rfl
      · rw [hGX.l] at hb'; cases hb'; rfl
      · rw [hGX.f] at hb'; cases hb'; rfl
    refine ⟨X.take H.length, oldWr H.length ((m.h.length + 7) :: s2.m.wr) ++ W, [], ?_, ⟨rfl, hGX.of (by rw [List.length_take]; omega) fun j hj => by rw [List.getElem?_take_of_lt (by omega)]⟩, by rw [List.length_take]; omega, fun j h1 h2 _ => ⟨?_, by simp⟩, fun x hx => ?_⟩
    · rw [bnStep_2]
      refine CallR.round (q2 := []) (a3 := .skip) (b3 := .skip) (s1 := { env := (8, .own H.length 0 0) :: (22, .r (.agg (ints .u8 t))) :: bnEnv m.h.length R, m := { h := H1, wr := [H.length] }, round := some (m.h.length + 7) }) (s2 := s2) (o := .norm) hF.lp rfl (.of fun K => ?_) hF1.lp (by rw [← hHb]; exact k2) (fun v h => by cases h) ?_
      · have hZl : (rs z_tally_truth).length = 40 := by rw [rs_len, truth_zero, ints_len]; simp
        have hZd : List.drop 40 (rs z_tally_truth) = [] := List.drop_eq_nil_of_le (by omega)
        obtain ⟨I, hI⟩ : ∃ I, I = ints .u8 t := ⟨_, rfl⟩
        obtain ⟨Z, hZ⟩ : ∃ Z, Z = rs z_tally_truth := ⟨_, rfl⟩
        rw [← hI] at hH1 l40 ⊢
        rw [← hZ] at hZl hZd
        obtain ⟨E, hE⟩ : ∃ E, E = bnEnv m.h.length R := ⟨_, rfl⟩
        rw [← hE, hH1]
        simp [s_tally_Bounds_0, ← hZ, rs_len, l40, hZl, hZd]
      · unfold roundEnd
        simp only [hG.lp, outJmp, Option.isNone_none, if_true, outJmp]
        rw [← hX, hset]
    · have hj7 : j ≠ m.h.length + 7 := by omega
      rw [List.getElem?_take_of_lt h2, hX, List.getElem?_set_ne (by omega), hfr j h1 (by omega), hHb, List.getElem?_set_ne (by omega), hH1, List.getElem?_append_left h2]
    · rcases List.mem_append.1 hx with hx | hx
      · unfold oldWr at hx
        obtain ⟨hx1, hx2⟩ := List.mem_filter.1 hx
        have hx2 : x < H.length := by simpa using hx2
        rcases List.mem_cons.1 hx1 with rfl | hx1
        · exact .inr (by omega)
        · rcases hw2 x hx1 with h | h | h
          · simp only [List.mem_cons, List.not_mem_nil, or_false] at h
            exact .inr (by omega)
          · simp only [List.mem_cons, List.not_mem_nil, or_false] at h
            exact .inr (by omega)
          · exact .inr (by omega)
      · exact .inl hx
end
end Go.AM.T
/- What the functions compute (own work). -/
namespace Go.AM.T
open Go Go.AM
attribute [local simp] so_mov so_pick so_alloc so_box so_build so_slit so_load so_store so_nilc so_bin so_beq so_eqs so_eqn so_eqnl so_not so_conv so_s2b so_mkfn so_slcA so_padd so_fld so_idxA so_idxV so_idxT so_look so_mupd so_mkmap so_mksl so_ext so_app so_lenT so_lenM so_min so_max so_cpy so_clr so_mkif so_tass so_lenS so_idxS so_slc
attribute [local simp] dn_skip dn_label dn_ret dn_exit dn_scope dn_keep dn_reg dn_draw0 noSlots denE denEI stepE  sd_mov sd_pick sd_build sd_load sd_store sd_nilc sd_bin sd_beq sd_eqs sd_eqn sd_eqnl sd_not sd_conv sd_s2b sd_mkfn sd_slc sd_slcA sd_padd sd_fld sd_idxS sd_idxA sd_idxV sd_idxT sd_look sd_mupd sd_ext sd_app sd_lenS sd_lenT sd_lenM sd_min sd_max sd_mkif sd_tass sd_call sd_slit dn_seq dn_cond dn_block dn_loop kn_call denIs denI denOp wants ev eget putD binL enumFrom AV.bool? AV.int? ekeep evs evp runV fin runDefs resAll resOf tupOf unit AV.cells okV ok1 Value.oneCell' fill setN rcells rs_nil rs_cons load_own load_cons mkAgg_rs storeN jmpOut
attribute [local simp] dvL dv1t dvAt mkAgg2 dv0 dv1 dv2 dv3 dv4 dv5 dv6 dv7 dv8 dv9 dv10 dvA dvN dvAll C_fz fzr
def bn0 : Bn := ⟨true, (0, 0), (0, 0), (0, 0)⟩
/-- The bounds. -/
def bnL (d : Div) : Bn := (foldS (bnStep d) bn0 (truthsOf d)).1
theorem openI0 {d : Div} (h : openI d = 0) : rightB d = true ∧ clashB d = none ∧ (doubtsL d).length ≤ 8 := by
  unfold openI at h
  by_cases e : faultI d = 0
  · rw [if_pos e] at h
    obtain ⟨h1, h2⟩ := faultI0 e
    refine ⟨h1, h2, ?_⟩
    by_cases e2 : 8 < (doubtsL d).length
    · rw [if_pos e2] at h; cases h
    · omega
  · rw [if_neg e] at h; exact absurd h e
section
variable {d : Div} {a0 a1 n0 n1 p q : RV}
theorem bnd_range (hs : DivS d a0 a1 n0 n1 p q) (hr : rightB d = true) (m : Mem) {R : List RV} (hR : R = lookC d (divC d a0 a1 n0 n1 p q)) (D : Blk) (W : List Nat) :
    ∃ H' W', Den C (.rangeF (.t 21) [22] s_tally_Bounds_0 b_tally_Bounds_0) { env := bnEnv m.h.length R, m := { h := m.h ++ [D, .cells [i64 0, i64 0] ty_tally_Range 0, .cells [i64 0, i64 0] ty_tally_Range 0, .cells (rs R) ty_tally_looked 0, .cells [i64 0, i64 0] ty_tally_Numbers 0, .cells [bo true] ty_bool 0], wr := W } } .norm
      { env := bnEnv m.h.length R, m := { h := H', wr := (m.h.length + 7) :: W' }, defs := [.dfr (m.h.length + 6)] } ∧
      H'[m.h.length + 1]? = some (.cells (nmC (bnL d).a) ty_tally_Range 0) ∧ H'[m.h.length + 2]? = some (.cells (nmC (bnL d).b) ty_tally_Range 0) ∧ H'[m.h.length + 6]? = some .dfr ∧ H'.take m.h.length = m.h ∧ m.h.length + 8 ≤ H'.length ∧ ∀ x ∈ W', x ∈ W ∨ m.h.length ≤ x := by
  obtain ⟨H0, hH0⟩ : ∃ H0, H0 = m.h ++ [D, .cells [i64 0, i64 0] ty_tally_Range 0, .cells [i64 0, i64 0] ty_tally_Range 0, .cells (rs R) ty_tally_looked 0, .cells [i64 0, i64 0] ty_tally_Numbers 0, .cells [bo true] ty_bool 0] := ⟨_, rfl⟩
  have hl0 : H0.length = m.h.length + 6 := by simp [hH0]
  rw [← hH0]
  obtain ⟨H1, hH1⟩ : ∃ H1, H1 = H0 ++ [.dfr, .loop (bnEnv m.h.length R) [22] s_tally_Bounds_0 b_tally_Bounds_0 .ready none] := ⟨_, rfl⟩
  have hF : HBn m R bn0 .ready H1 := by
    refine ⟨?_, ?_, ?_, ?_, ?_, ?_, ?_, ?_⟩ <;> simp [hH1, hH0, nmC, bn0]
  have hRr : R = lookC d (divC d a0 a1 n0 n1 p q) := hR
  obtain ⟨H', W', F', k1, ⟨-, hG⟩, hl, hfr, hw⟩ := iter_spec (bnd_yld hs hr m hR) (right_n hr) (R := R) (fun m => by rw [hRr]; exact lookC_p0 m) (fun m k h1 h2 => by rw [hRr]; exact lookC_pm m k h1 h2) W (N := (truthsOf d).length) (s := bn0) (H := H1) (F := []) rfl (by simp) ⟨rfl, hF⟩ (by simp [hH1, hl0])
  have hHl := getElem?_lt hG.lp
  refine ⟨H'.set (m.h.length + 7) .dead, W', ?_, ?_, ?_, ?_, ?_, by simp; omega, fun x hx => hw x hx⟩
  · have hla : loopAt ({ env := bnEnv m.h.length R, m := { h := H0, wr := W } } : St) = m.h.length + 7 := by simp [loopAt, hl0]
    have hlh : loopHeap ({ env := bnEnv m.h.length R, m := { h := H0, wr := W } } : St) [22] s_tally_Bounds_0 b_tally_Bounds_0 = H1 := by simp [loopHeap, hH1]
    have hld : loopDefs ({ env := bnEnv m.h.length R, m := { h := H0, wr := W } } : St) = [.dfr (m.h.length + 6)] := by simp [loopDefs, hl0]
    have := Den.rangeF (C := C) (s := { env := bnEnv m.h.length R, m := { h := H0, wr := W } }) (f := .t 21) (ps := [22]) (as := s_tally_Bounds_0) (bd := b_tally_Bounds_0) (v := .tup []) (m := { h := H', wr := W' }) (env := bnEnv m.h.length R) (q1 := [22]) (q2 := s_tally_Bounds_0) (q3 := b_tally_Bounds_0) (st := .ready) (pend := none) rfl rfl (by
      rw [hla, hlh]
      exact k1) (by rw [hla]; exact hG.lp) (fun h => by cases h)
    rw [hla, hld] at this
    exact this
  · rw [List.getElem?_set_ne (by omega)]; exact hG.a
  · rw [List.getElem?_set_ne (by omega)]; exact hG.b
  · rw [List.getElem?_set_ne (by omega)]; exact hG.d
  · rw [List.take_set_of_le (by omega)]; exact hG.tk
end
end Go.AM.T
/- What the functions compute (own work). -/
namespace Go.AM.T
open Go Go.AM
attribute [local simp] so_mov so_pick so_alloc so_box so_build so_slit so_load so_store so_nilc so_bin so_beq so_eqs so_eqn so_eqnl so_not so_conv so_s2b so_mkfn so_slcA so_padd so_fld so_idxA so_idxV so_idxT so_look so_mupd so_mkmap so_mksl so_ext so_app so_lenT so_lenM so_min so_max so_cpy so_clr so_mkif so_tass so_lenS so_idxS so_slc
attribute [local simp] dn_skip dn_label dn_ret dn_exit dn_scope dn_keep dn_reg dn_draw0 noSlots denE denEI stepE  sd_mov sd_pick sd_build sd_load sd_store sd_nilc sd_bin sd_beq sd_eqs sd_eqn sd_eqnl sd_not sd_conv sd_s2b sd_mkfn sd_slc sd_slcA sd_padd sd_fld sd_idxS sd_idxA sd_idxV sd_idxT sd_look sd_mupd sd_ext sd_app sd_lenS sd_lenT sd_lenM sd_min sd_max sd_mkif sd_tass sd_call sd_slit dn_seq dn_cond dn_block dn_loop kn_call denIs denI denOp wants ev eget putD binL enumFrom AV.bool? AV.int? ekeep evs evp runV fin runDefs resAll resOf tupOf unit AV.cells okV ok1 Value.oneCell' fill setN rcells rs_nil rs_cons load_own load_cons mkAgg_rs storeN jmpOut
attribute [local simp] dvL dv1t dvAt mkAgg2 dv0 dv1 dv2 dv3 dv4 dv5 dv6 dv7 dv8 dv9 dv10 dvA dvN dvAll C_fz fzr
section
variable {d : Div} {a0 a1 n0 n1 p q : RV}
theorem Bounds_spec (hs : DivS d a0 a1 n0 n1 p q) (hb : Small d) (hru : 0 ≤ d.rule ∧ d.rule ≤ 255) (m : Mem) : CallR C (fnv fn_tally_Bounds) [.r (.agg (divC d a0 a1 n0 n1 p q))] m
    (.ret (.tup [.r (nmR (if openI d = 0 then (bnL d).a else (0, 0))), .r (nmR (if openI d = 0 then (bnL d).b else (0, 0))), i64 (openI d)]) m) := by
  obtain ⟨R, hRR⟩ : ∃ R, R = (if openI d = 0 then lookC d (divC d a0 a1 n0 n1 p q) else z_tally_looked) := ⟨_, rfl⟩
  have lR : R.length = 91 := by rw [hRR]; split <;> rfl
  have hRt : List.take 91 (rs R) = rs R := List.take_of_length_le (by rw [rs_len]; omega)
  obtain ⟨Z, hZ⟩ : ∃ Z, Z = z_tally_looked := ⟨_, rfl⟩
  have hZl : Z.length = 91 := by rw [hZ]; rfl
  have hZd : List.drop 91 (rs Z) = [] := List.drop_eq_nil_of_le (by rw [rs_len]; omega)
  have hd11 : (divC d a0 a1 n0 n1 p q).length = 11 := rfl
  obtain ⟨c1, k1⟩ := topen_spec hs hb hru { h := m.h ++ [.cells (rs (divC d a0 a1 n0 n1 p q)) ty_tally_Division 0, .cells [i64 0, i64 0] ty_tally_Range 0, .cells [i64 0, i64 0] ty_tally_Range 0] }
  rw [← hRR] at k1
  by_cases e : openI d = 0
  · rw [if_pos e] at hRR
    rw [e] at k1
    rw [if_pos e, if_pos e, e]
    obtain ⟨hr, -, -⟩ := openI0 e
    obtain ⟨H', W', ⟨c2, k2⟩, gA, gB, gD, gT, gl, gw⟩ := bnd_range hs hr m hRR (.cells (rs (divC d a0 a1 n0 n1 p q)) ty_tally_Division 0) [m.h.length + 5, m.h.length + 3]
    obtain ⟨c3, k3⟩ := truths_spec lR { h := m.h ++ [.cells (rs (divC d a0 a1 n0 n1 p q)) ty_tally_Division 0, .cells [i64 0, i64 0] ty_tally_Range 0, .cells [i64 0, i64 0] ty_tally_Range 0, .cells (rs R) ty_tally_looked 0, .cells [i64 0, i64 0] ty_tally_Numbers 0, .cells [bo true] ty_bool 0], wr := [m.h.length + 5, m.h.length + 3] }
    obtain ⟨A, hA⟩ : ∃ A, A = (bnL d).a := ⟨_, rfl⟩
    obtain ⟨B, hB⟩ : ∃ B, B = (bnL d).b := ⟨_, rfl⟩
    rw [← hA] at gA ⊢
    rw [← hB] at gB ⊢
    simp only [nmC] at gA gB
    simp only [bnEnv] at k2
    obtain ⟨H3, hH3⟩ : ∃ H3, H3 = H'.set (m.h.length + 1) (.cells [i64 A.1, i64 A.2] ty_tally_Range 0) := ⟨_, rfl⟩
    obtain ⟨H4, hH4⟩ : ∃ H4, H4 = H3.set (m.h.length + 2) (.cells [i64 B.1, i64 B.2] ty_tally_Range 0) := ⟨_, rfl⟩
    obtain ⟨H5, hH5⟩ : ∃ H5, H5 = H4.set (m.h.length + 6) .dead := ⟨_, rfl⟩
    have q3 : H3.length = H'.length := by simp [hH3]
    have q4 : H4.length = H'.length := by simp [hH4, hH3]
    have b3 : H3[m.h.length + 2]? = some (.cells [i64 B.1, i64 B.2] ty_tally_Range 0) := by rw [hH3, List.getElem?_set_ne (by omega)]; exact gB
    have d4 : H4[m.h.length + 6]? = some .dfr := by rw [hH4, List.getElem?_set_ne (by omega), hH3, List.getElem?_set_ne (by omega)]; exact gD
    have a5 : H5[m.h.length + 1]? = some (.cells [i64 A.1, i64 A.2] ty_tally_Range 0) := by rw [hH5, List.getElem?_set_ne (by omega), hH4, List.getElem?_set_ne (by omega), hH3, List.getElem?_set_self (by omega)]
    have b5 : H5[m.h.length + 2]? = some (.cells [i64 B.1, i64 B.2] ty_tally_Range 0) := by rw [hH5, List.getElem?_set_ne (by omega), hH4, List.getElem?_set_self (by omega)]
    refine CallR.eval (m1 := { h := H5, wr := (m.h.length + 6) :: (m.h.length + 2) :: (m.h.length + 1) :: (m.h.length + 7) :: W' }) rfl rfl prog_tally_Bounds rfl ⟨c1 + c2 + c3, fun k hk => ?_⟩ (by rw [hH5, List.take_set_of_le (by omega), hH4, List.take_set_of_le (by omega), hH3, List.take_set_of_le (by omega)]; exact gT) (by
      intro x hx
      simp only [List.mem_cons] at hx
      rcases hx with rfl | rfl | rfl | rfl | hx
      · omega
      · omega
      · omega
      · omega
      · rcases gw x hx with h | h
        · simp at h; omega
        · exact h)
    simp [a_tally_Bounds, dn_drawF, denF, denFI, stepF, slotFree, slotOf, foot, avIdx, wrAll, pairsOk, apartL, ← hZ, hd11, rs_len, hZl, hZd, lR, hRt, k1 k (by omega), k3 k (by omega), k2 k (by omega), gA, gB, ← hH3, b3, ← hH4, d4, ← hH5, a5, b5, q3, q4, fz, fzs, nmR, mkAgg, allR_rs, allR, AV.toR]
  · rw [if_neg e, if_neg e]
    have e' : (openI d == 0) = false := by simpa using e
    refine CallR.eval (m1 := { h := m.h ++ [.cells (rs (divC d a0 a1 n0 n1 p q)) ty_tally_Division 0, .cells [i64 0, i64 0] ty_tally_Range 0, .cells [i64 0, i64 0] ty_tally_Range 0, .cells (rs R) ty_tally_looked 0], wr := [m.h.length + 2, m.h.length + 1, m.h.length + 3] }) rfl rfl prog_tally_Bounds rfl ⟨c1, fun k hk => ?_⟩ (by simp) (by simp)
    simp [a_tally_Bounds, ← hZ, hd11, rs_len, hZl, hZd, lR, hRt, k1 k (by omega), e', e, fz, fzs, nmR, mkAgg, allR_rs, allR, AV.toR]
end
end Go.AM.T
/- What the functions compute (own work). -/
namespace Go.AM.T
open Go Go.AM
attribute [local simp] so_mov so_pick so_alloc so_box so_build so_slit so_load so_store so_nilc so_bin so_beq so_eqs so_eqn so_eqnl so_not so_conv so_s2b so_mkfn so_slcA so_padd so_fld so_idxA so_idxV so_idxT so_look so_mupd so_mkmap so_mksl so_ext so_app so_lenT so_lenM so_min so_max so_cpy so_clr so_mkif so_tass so_lenS so_idxS so_slc
attribute [local simp] dn_skip dn_label dn_ret dn_exit dn_scope dn_keep dn_reg dn_draw0 noSlots denE denEI stepE  sd_mov sd_pick sd_build sd_load sd_store sd_nilc sd_bin sd_beq sd_eqs sd_eqn sd_eqnl sd_not sd_conv sd_s2b sd_mkfn sd_slc sd_slcA sd_padd sd_fld sd_idxS sd_idxA sd_idxV sd_idxT sd_look sd_mupd sd_ext sd_app sd_lenS sd_lenT sd_lenM sd_min sd_max sd_mkif sd_tass sd_call sd_slit dn_seq dn_cond dn_block dn_loop kn_call denIs denI denOp wants ev eget putD binL enumFrom AV.bool? AV.int? ekeep evs evp runV fin runDefs resAll resOf tupOf unit AV.cells okV ok1 Value.oneCell' fill setN rcells rs_nil rs_cons load_own load_cons mkAgg_rs storeN jmpOut
attribute [local simp] dvL dv1t dvAt mkAgg2 dv0 dv1 dv2 dv3 dv4 dv5 dv6 dv7 dv8 dv9 dv10 dvA dvN dvAll C_fz fzr
section
variable {d : Div} {a0 a1 n0 n1 p q : RV}
theorem lawfault_spec (hs : DivS d a0 a1 n0 n1 p q) (hb : Small d) (m : Mem) : CallR C (fnv fn_law07_fault) [.r (.agg (divC d a0 a1 n0 n1 p q))] m (.ret (i64 (faultI d)) m) := by
  obtain ⟨H, hH⟩ : ∃ H, H = m.h ++ [.cells (rs (divC d a0 a1 n0 n1 p q)) ty_ref07_Division 0] := ⟨_, rfl⟩
  have hc : H[m.h.length]? = some (.cells (rs (divC d a0 a1 n0 n1 p q)) ty_ref07_Division 0) := by simp [hH]
  have ht : H.take m.h.length = m.h := by simp [hH]
  have hd11 : (divC d a0 a1 n0 n1 p q).length = 11 := rfl
  obtain ⟨c1, k1⟩ := Right_spec hs hb { h := H }
  unfold faultI
  cases e : rightB d with
  | false =>
    rw [e] at k1
    exact CallR.eval (m1 := { h := H }) rfl rfl prog_law07_fault rfl ⟨c1, fun k hk => by simp [a_law07_fault, ← hH, hc, hd11, k1 k hk]⟩ ht (by simp)
  | true =>
    rw [e] at k1
    obtain ⟨c2, k2⟩ := refClash_spec hs hb (right_n e).1 (right_n e).2 { h := H }
    cases e2 : clashB d with
    | none =>
      rw [e2] at k2
      exact CallR.eval (m1 := { h := H }) rfl rfl prog_law07_fault rfl ⟨c1 + c2, fun k hk => by simp [a_law07_fault, ← hH, hc, hd11, k1 k (by omega), k2 k (by omega)]⟩ ht (by simp)
    | some i =>
      rw [e2] at k2
      exact CallR.eval (m1 := { h := H }) rfl rfl prog_law07_fault rfl ⟨c1 + c2, fun k hk => by simp [a_law07_fault, ← hH, hc, hd11, k1 k (by omega), k2 k (by omega)]⟩ ht (by simp)
/-- May a member have a vote? -/
theorem may_mem (d : Div) (x v : Int) : decide (v ∈ may d x) = (if v = 0 then decide (onB d.a0 d.a1 x < 2) && decide (onB d.n0 d.n1 x < 2) else if v = 1 then decide (0 < onB d.a0 d.a1 x) && decide (onB d.n0 d.n1 x < 2) else if v = 2 then decide (0 < onB d.n0 d.n1 x) && decide (onB d.a0 d.a1 x < 2) else false) := by
  unfold may votesL
  by_cases h0 : v = 0
  · subst h0
    rcases onB_cases d.a0 d.a1 x with e0 | e0 | e0 <;> rcases onB_cases d.n0 d.n1 x with e1 | e1 | e1 <;> rw [e0, e1] <;> rfl
  · by_cases h1 : v = 1
    · subst h1
      rcases onB_cases d.a0 d.a1 x with e0 | e0 | e0 <;> rcases onB_cases d.n0 d.n1 x with e1 | e1 | e1 <;> rw [e0, e1] <;> rfl
    · by_cases h2 : v = 2
      · subst h2
        rcases onB_cases d.a0 d.a1 x with e0 | e0 | e0 <;> rcases onB_cases d.n0 d.n1 x with e1 | e1 | e1 <;> rw [e0, e1] <;> rfl
      · rw [if_neg h0, if_neg h1, if_neg h2, decide_eq_false_iff_not]
        rcases onB_cases d.a0 d.a1 x with e0 | e0 | e0 <;> rcases onB_cases d.n0 d.n1 x with e1 | e1 | e1 <;> rw [e0, e1] <;> simp [h0, h1, h2]
theorem refMay_spec (hs : DivS d a0 a1 n0 n1 p q) (hb : Small d) (x v : Int) (hv : v = 0 ∨ v = 1 ∨ v = 2) (m : Mem) : CallR C (fnv fn_ref07_May) [.r (.agg (divC d a0 a1 n0 n1 p q)), i64 x, u8 v] m (.ret (bo (decide (v ∈ may d x))) m) := by
  obtain ⟨H, hH⟩ : ∃ H, H = m.h ++ [.cells (rs (divC d a0 a1 n0 n1 p q)) ty_ref07_Division 0] := ⟨_, rfl⟩
  have hc : H[m.h.length]? = some (.cells (rs (divC d a0 a1 n0 n1 p q)) ty_ref07_Division 0) := by simp [hH]
  have ht : H.take m.h.length = m.h := by simp [hH]
  have hd11 : (divC d a0 a1 n0 n1 p q).length = 11 := rfl
  obtain ⟨c1, k1⟩ := On_spec hs.a0 hs.a1 hb.a0 hb.a1 x { h := H }
  obtain ⟨c2, k2⟩ := On_spec hs.n0 hs.n1 hb.n0 hb.n1 x { h := H }
  rw [may_mem]
  rcases onB_cases d.a0 d.a1 x with e0 | e0 | e0 <;> rcases onB_cases d.n0 d.n1 x with e1 | e1 | e1 <;> rw [e0] at k1 ⊢ <;> rw [e1] at k2 ⊢
  all_goals
    rcases hv with rfl | rfl | rfl
    all_goals exact CallR.eval (m1 := { h := H }) rfl rfl prog_ref07_May rfl ⟨c1 + c2, fun k hk => by simp [a_ref07_May, dn_drawF, denF, denFI, stepF, slotFree, slotOf, foot, avIdx, wrAll, pairsOk, apartL, ← hH, hc, hd11, k1 k (by omega), k2 k (by omega)]⟩ ht (by simp)
end
end Go.AM.T
/- What the functions compute (own work). -/
namespace Go.AM.T
open Go Go.AM
attribute [local simp] so_mov so_pick so_alloc so_box so_build so_slit so_load so_store so_nilc so_bin so_beq so_eqs so_eqn so_eqnl so_not so_conv so_s2b so_mkfn so_slcA so_padd so_fld so_idxA so_idxV so_idxT so_look so_mupd so_mkmap so_mksl so_ext so_app so_lenT so_lenM so_min so_max so_cpy so_clr so_mkif so_tass so_lenS so_idxS so_slc
attribute [local simp] dn_skip dn_label dn_ret dn_exit dn_scope dn_keep dn_reg dn_draw0 noSlots denE denEI stepE  sd_mov sd_pick sd_build sd_load sd_store sd_nilc sd_bin sd_beq sd_eqs sd_eqn sd_eqnl sd_not sd_conv sd_s2b sd_mkfn sd_slc sd_slcA sd_padd sd_fld sd_idxS sd_idxA sd_idxV sd_idxT sd_look sd_mupd sd_ext sd_app sd_lenS sd_lenT sd_lenM sd_min sd_max sd_mkif sd_tass sd_call sd_slit dn_seq dn_cond dn_block dn_loop kn_call denIs denI denOp wants ev eget putD binL enumFrom AV.bool? AV.int? ekeep evs evp runV fin runDefs resAll resOf tupOf unit AV.cells okV ok1 Value.oneCell' fill setN rcells rs_nil rs_cons load_own load_cons mkAgg_rs storeN jmpOut
attribute [local simp] dvL dv1t dvAt mkAgg2 dv0 dv1 dv2 dv3 dv4 dv5 dv6 dv7 dv8 dv9 dv10 dvA dvN dvAll C_fz fzr
theorem u80 : IntKind.wrap .u8 0 = 0 := by decide
theorem u81 : IntKind.wrap .u8 1 = 1 := by decide
theorem u82 : IntKind.wrap .u8 2 = 2 := by decide
section
variable {d : Div} {a0 a1 n0 n1 p q : RV}
theorem refDoubts_inner (hs : DivS d a0 a1 n0 n1 p q) (hb : Small d) (x : Int) {L : Nat} {H : List Blk} (W : List Nat) (v : AV) (hc : H[L]? = some (.cells (rs (divC d a0 a1 n0 n1 p q)) ty_ref07_Division 0)) :
    ∃ c, ∀ k, c ≤ k → ∀ s0 : St, goLoop (Kn C k) [1, 3, 4, 5, 6] l_ref07_Doubts_0 { s0 with env := [(6, i64 0), (5, i64 0), (1, .own L 0 0), (3, v), (4, i64 x), (10, bo true)], m := { h := H, wr := W } } =
      some (.exit 2, { s0 with env := [(1, .own L 0 0), (3, v), (4, i64 x), (5, i64 (may d x).length), (6, i64 3), (14, bo false)], m := { h := H, wr := W } }) := by
  have hd11 : (divC d a0 a1 n0 n1 p q).length = 11 := rfl
  obtain ⟨c0, k0⟩ := refMay_spec hs hb x 0 (by omega) { h := H, wr := W }
  obtain ⟨c1, k1⟩ := refMay_spec hs hb x 1 (by omega) { h := H, wr := W }
  obtain ⟨c2, k2⟩ := refMay_spec hs hb x 2 (by omega) { h := H, wr := W }
  refine ⟨c0 + c1 + c2 + 5, fun k hk s0 => ?_⟩
  obtain ⟨j, rfl⟩ : ∃ j, k = j + 5 := ⟨k - 5, by omega⟩
  have q0 := k0 (j + 5) (by omega)
  have q1 := k1 (j + 5) (by omega)
  have q2 := k2 (j + 5) (by omega)
  have hl : (may d x).length = (if decide (0 ∈ may d x) = true then 1 else 0) + (if decide (1 ∈ may d x) = true then 1 else 0) + (if decide (2 ∈ may d x) = true then 1 else 0) := by
    unfold may votesL
    rcases onB_cases d.a0 d.a1 x with e0 | e0 | e0 <;> rcases onB_cases d.n0 d.n1 x with e1 | e1 | e1 <;> rw [e0, e1] <;> rfl
  have wk3' : IntKind.wrap .i64 3 = 3 := by decide
  cases b0 : decide (0 ∈ may d x) <;> cases b1 : decide (1 ∈ may d x) <;> cases b2 : decide (2 ∈ may d x) <;> rw [b0] at q0 hl <;> rw [b1] at q1 hl <;> rw [b2] at q2 hl <;> rw [hl]
  all_goals simp [goLoop, kn_iter, iterN, l_ref07_Doubts_0, hc, hd11, q0, q1, q2, u80, u81, u82, wk1, wk2, wk3, wk3']
end
end Go.AM.T
/- What the functions compute (own work). -/
namespace Go.AM.T
open Go Go.AM
attribute [local simp] so_mov so_pick so_alloc so_box so_build so_slit so_load so_store so_nilc so_bin so_beq so_eqs so_eqn so_eqnl so_not so_conv so_s2b so_mkfn so_slcA so_padd so_fld so_idxA so_idxV so_idxT so_look so_mupd so_mkmap so_mksl so_ext so_app so_lenT so_lenM so_min so_max so_cpy so_clr so_mkif so_tass so_lenS so_idxS so_slc
attribute [local simp] dn_skip dn_label dn_ret dn_exit dn_scope dn_keep dn_reg dn_draw0 noSlots denE denEI stepE  sd_mov sd_pick sd_build sd_load sd_store sd_nilc sd_bin sd_beq sd_eqs sd_eqn sd_eqnl sd_not sd_conv sd_s2b sd_mkfn sd_slc sd_slcA sd_padd sd_fld sd_idxS sd_idxA sd_idxV sd_idxT sd_look sd_mupd sd_ext sd_app sd_lenS sd_lenT sd_lenM sd_min sd_max sd_mkif sd_tass sd_call sd_slit dn_seq dn_cond dn_block dn_loop kn_call denIs denI denOp wants ev eget putD binL enumFrom AV.bool? AV.int? ekeep evs evp runV fin runDefs resAll resOf tupOf unit AV.cells okV ok1 Value.oneCell' fill setN rcells rs_nil rs_cons load_own load_cons mkAgg_rs storeN jmpOut
attribute [local simp] dvL dv1t dvAt mkAgg2 dv0 dv1 dv2 dv3 dv4 dv5 dv6 dv7 dv8 dv9 dv10 dvA dvN dvAll C_fz fzr
section
variable {d : Div} {a0 a1 n0 n1 p q : RV}
theorem refDoubts_spec (hs : DivS d a0 a1 n0 n1 p q) (hb : Small d) (hn : 1 ≤ d.n ∧ d.n ≤ 40) (m : Mem) : CallR C (fnv fn_ref07_Doubts) [.r (.agg (divC d a0 a1 n0 n1 p q))] m (.ret (.r (slI (doubtsL d))) m) := by
  have hd11 : (divC d a0 a1 n0 n1 p q).length = 11 := rfl
  obtain ⟨f, hf⟩ : ∃ f : Nat → Bool, f = fun (i : Nat) => decide (1 < (may d i).length) := ⟨_, rfl⟩
  have key := Loop.run (C := C) (c := l_ref07_Doubts_1) (live := [1, 3, 4]) (fun k s => ∃ (i : Nat) (H : List Blk) (W : List Nat) (v : AV), (i : Int) + k = d.n ∧ At1 [1, 3, 4] [(1, .own m.h.length 0 0), (3, v), (4, i64 i)] { h := H, wr := W } s ∧
      GS H (m.h.length + 1) ty_int 1 (ints .i64 (((List.range i).filter f).map fun (i : Nat) => (i : Int))) ((List.range i).filter f).length v ∧ H[m.h.length]? = some (.cells (rs (divC d a0 a1 n0 n1 p q)) ty_ref07_Division 0) ∧ H.take m.h.length = m.h ∧ ∀ x ∈ W, m.h.length ≤ x)
    (fun o s => ∃ (H : List Blk) (W : List Nat) (v : AV), o = .exit 0 ∧ s.m = { h := H, wr := W } ∧ s.defs = [] ∧ eget s.env 3 = v ∧ GS H (m.h.length + 1) ty_int 1 (ints .i64 (doubtsL d)) (doubtsL d).length v ∧ H.take m.h.length = m.h ∧ ∀ x ∈ W, m.h.length ≤ x) (by
    rintro k s ⟨i, H, W, v, hik, ⟨he, hm, hd, hr⟩, hG, hc, ht, hw⟩
    rw [he]
    cases k with
    | zero =>
      have e1 : ((i : Int) < d.n) = False := eq_false (by omega)
      refine ⟨.exit 0, _, .of fun K => by simp [l_ref07_Doubts_1, hm, hc, hd11, e1]; rfl, .inr ⟨by simp, H, W, v, rfl, by simp [hm], by simp [hd], by simp, ?_, ht, hw⟩⟩
      have hi : d.n.toNat = i := by omega
      unfold doubtsL
      rw [hi, ← hf, List.length_map]
      exact hG
    | succ k =>
      have hi : (i : Int) < d.n := by omega
      have e1 : ((i : Int) < d.n) = True := eq_true hi
      have w1 : IntKind.wrap .i64 ((i : Int) + 1) = i + 1 := by rw [w64] <;> omega
      have hll : m.h.length < H.length := getElem?_lt hc
      obtain ⟨c1, k1⟩ := refDoubts_inner hs hb i W v hc
      cases e3 : f i with
      | true =>
        have e4 : (1 < ((may d i).length : Int)) = True := eq_true (by rw [hf] at e3; simp at e3; omega)
        have hlen : ((List.range i).filter f).length ≤ i := Nat.le_trans (List.length_filter_le _ _) (by simp)
        obtain ⟨B, g, H', W', hA, hW', hB, hG', hK⟩ := hG.app (W := W) (new := [.lit (.int .i64 i)]) (bytes := 8) (k := 1) (c := some 1) (by omega) (by omega) rfl ⟨by omega, by omega⟩
        refine ⟨.norm, _, .ofN ⟨c1, fun n hn' => by simp [l_ref07_Doubts_1, hm, hc, hd11, e1, k1 n hn' s, e4, allR, AV.toR, repl, hA, w1]; rfl⟩, .inl ⟨rfl, k, by omega, i + 1, H', W', _, by omega, ⟨by simp; rfl, rfl, by simp [hd], by simp [hr]⟩, ?_, ?_, ?_, ?_⟩⟩
        · rw [List.range_succ, List.filter_append, List.map_append, List.length_append]
          simp only [List.filter_cons, e3, if_true, List.filter_nil, List.map_cons, List.map_nil, List.length_cons, List.length_nil]
          have : ints .i64 (((List.range i).filter f).map (fun (i : Nat) => (i : Int)) ++ [(i : Int)]) = ints .i64 (((List.range i).filter f).map fun (i : Nat) => (i : Int)) ++ [.lit (.int .i64 i)] := by simp [ints]
          rw [this]
          exact hG'
        · exact GS.keep hK hc (fun ds g h => by cases h)
        · exact (GS.keepT hK (L := m.h.length) (by omega) (by omega)).1.trans ht
        · intro x hx
          rcases hW' with rfl | rfl
          · exact hw x hx
          · rcases List.mem_cons.1 hx with rfl | hx
            · omega
            · exact hw x hx
      | false =>
        have e4 : (1 < ((may d i).length : Int)) = False := eq_false (by rw [hf] at e3; simp at e3; omega)
        refine ⟨.norm, _, .ofN ⟨c1, fun n hn' => by simp [l_ref07_Doubts_1, hm, hc, hd11, e1, k1 n hn' s, e4, w1]; rfl⟩, .inl ⟨rfl, k, by omega, i + 1, H, W, v, by omega, ⟨by simp, by simp, by simp [hd], by simp [hr]⟩, ?_, hc, ht, hw⟩⟩
        rw [List.range_succ, List.filter_append, show List.filter f [i] = [] by simp [e3], List.append_nil]
        exact hG)
  obtain ⟨H, hH⟩ : ∃ H, H = m.h ++ [.cells (rs (divC d a0 a1 n0 n1 p q)) ty_ref07_Division 0] := ⟨_, rfl⟩
  have hc : H[m.h.length]? = some (.cells (rs (divC d a0 a1 n0 n1 p q)) ty_ref07_Division 0) := by simp [hH]
  have ht : H.take m.h.length = m.h := by simp [hH]
  obtain ⟨o, s, h1, h2, H', W', v, rfl, h3, h4, h5, h6, h7, h8⟩ := key d.n.toNat { env := [(4, i64 0), (3, .r .nil), (1, .own m.h.length 0 0)], m := { h := H } } ⟨0, H, [], .r .nil, by omega, ⟨by simp, rfl, rfl, rfl⟩, .nil rfl rfl, hc, ht, by simp⟩
  obtain ⟨c0, h1⟩ := h1.get
  have hz : fz { h := H', wr := W' } m.h.length 1000000 v = some (.r (slI (doubtsL d))) := by
    have h6' : GS H' m.h.length ty_int 1 (ints .i64 (doubtsL d)) (doubtsL d).length v := by
      cases h6 with
      | nil e1 e2 => exact .nil e1 e2
      | osl B g k1 k2 k3 k4 => exact .osl B g (by omega) k2 k3 k4
    exact h6'.fz (by rw [ints_len]; have := doubtsL_len d; omega)
  exact CallR.eval (m1 := { h := H', wr := W' }) rfl rfl prog_ref07_Doubts rfl ⟨c0, fun k hk => by simp [a_ref07_Doubts, ← hH, h1 k hk, h3, h4, h5, hz]⟩ h7 h8
end
end Go.AM.T
/- What the functions compute (own work). -/
namespace Go.AM.T
open Go Go.AM
attribute [local simp] so_mov so_pick so_alloc so_box so_build so_slit so_load so_store so_nilc so_bin so_beq so_eqs so_eqn so_eqnl so_not so_conv so_s2b so_mkfn so_slcA so_padd so_fld so_idxA so_idxV so_idxT so_look so_mupd so_mkmap so_mksl so_ext so_app so_lenT so_lenM so_min so_max so_cpy so_clr so_mkif so_tass so_lenS so_idxS so_slc
attribute [local simp] dn_skip dn_label dn_ret dn_exit dn_scope dn_keep dn_reg dn_draw0 noSlots denE denEI stepE  sd_mov sd_pick sd_build sd_load sd_store sd_nilc sd_bin sd_beq sd_eqs sd_eqn sd_eqnl sd_not sd_conv sd_s2b sd_mkfn sd_slc sd_slcA sd_padd sd_fld sd_idxS sd_idxA sd_idxV sd_idxT sd_look sd_mupd sd_ext sd_app sd_lenS sd_lenT sd_lenM sd_min sd_max sd_mkif sd_tass sd_call sd_slit dn_seq dn_cond dn_block dn_loop kn_call denIs denI denOp wants ev eget putD binL enumFrom AV.bool? AV.int? ekeep evs evp runV fin runDefs resAll resOf tupOf unit AV.cells okV ok1 Value.oneCell' fill setN rcells rs_nil rs_cons load_own load_cons mkAgg_rs storeN jmpOut
attribute [local simp] dvL dv1t dvAt mkAgg2 dv0 dv1 dv2 dv3 dv4 dv5 dv6 dv7 dv8 dv9 dv10 dvA dvN dvAll C_fz fzr
section
variable {d : Div} {a0 a1 n0 n1 p q : RV}
theorem lawopen_spec (hs : DivS d a0 a1 n0 n1 p q) (hb : Small d) (m : Mem) : CallR C (fnv fn_law07_open) [.r (.agg (divC d a0 a1 n0 n1 p q))] m (.ret (i64 (openI d)) m) := by
  obtain ⟨H, hH⟩ : ∃ H, H = m.h ++ [.cells (rs (divC d a0 a1 n0 n1 p q)) ty_ref07_Division 0] := ⟨_, rfl⟩
  have hc : H[m.h.length]? = some (.cells (rs (divC d a0 a1 n0 n1 p q)) ty_ref07_Division 0) := by simp [hH]
  have ht : H.take m.h.length = m.h := by simp [hH]
  have hd11 : (divC d a0 a1 n0 n1 p q).length = 11 := rfl
  obtain ⟨c1, k1⟩ := lawfault_spec hs hb { h := H }
  unfold openI
  by_cases e : faultI d = 0
  · rw [e] at k1
    rw [if_pos e]
    obtain ⟨e1, _⟩ := faultI0 e
    obtain ⟨c2, k2⟩ := refDoubts_spec hs hb (right_n e1) { h := H }
    have hl := (Sl.slI (doubtsL d)).len
    by_cases e3 : 8 < (doubtsL d).length
    · rw [if_pos e3]
      have e3' : (8 < ((doubtsL d).length : Int)) = True := eq_true (by omega)
      exact CallR.eval (m1 := { h := H }) rfl rfl prog_law07_open rfl ⟨c1 + c2, fun k hk => by simp [a_law07_open, ← hH, hc, hd11, k1 k (by omega), k2 k (by omega), hl, e3']⟩ ht (by simp)
    · rw [if_neg e3]
      have e3' : (8 < ((doubtsL d).length : Int)) = False := eq_false (by omega)
      exact CallR.eval (m1 := { h := H }) rfl rfl prog_law07_open rfl ⟨c1 + c2, fun k hk => by simp [a_law07_open, ← hH, hc, hd11, k1 k (by omega), k2 k (by omega), hl, e3']⟩ ht (by simp)
  · rw [if_neg e]
    have e' : (faultI d == 0) = false := by simpa using e
    exact CallR.eval (m1 := { h := H }) rfl rfl prog_law07_open rfl ⟨c1, fun k hk => by simp [a_law07_open, ← hH, hc, hd11, k1 k (by omega), e', e]⟩ ht (by simp)
end
end Go.AM.T
/- What the functions compute (own work). -/
namespace Go.AM.T
open Go Go.AM
attribute [local simp] so_mov so_pick so_alloc so_box so_build so_slit so_load so_store so_nilc so_bin so_beq so_eqs so_eqn so_eqnl so_not so_conv so_s2b so_mkfn so_slcA so_padd so_fld so_idxA so_idxV so_idxT so_look so_mupd so_mkmap so_mksl so_ext so_app so_lenT so_lenM so_min so_max so_cpy so_clr so_mkif so_tass so_lenS so_idxS so_slc
attribute [local simp] dn_skip dn_label dn_ret dn_exit dn_scope dn_keep dn_reg dn_draw0 noSlots denE denEI stepE  sd_mov sd_pick sd_build sd_load sd_store sd_nilc sd_bin sd_beq sd_eqs sd_eqn sd_eqnl sd_not sd_conv sd_s2b sd_mkfn sd_slc sd_slcA sd_padd sd_fld sd_idxS sd_idxA sd_idxV sd_idxT sd_look sd_mupd sd_ext sd_app sd_lenS sd_lenT sd_lenM sd_min sd_max sd_mkif sd_tass sd_call sd_slit dn_seq dn_cond dn_block dn_loop kn_call denIs denI denOp wants ev eget putD binL enumFrom AV.bool? AV.int? ekeep evs evp runV fin runDefs resAll resOf tupOf unit AV.cells okV ok1 Value.oneCell' fill setN rcells rs_nil rs_cons load_own load_cons mkAgg_rs storeN jmpOut
attribute [local simp] dvL dv1t dvAt mkAgg2 dv0 dv1 dv2 dv3 dv4 dv5 dv6 dv7 dv8 dv9 dv10 dvA dvN dvAll C_fz fzr
theorem law07_ints_spec {l k : List Int} {v w : RV} (hl : Sl (ints .i64 l) l.length v) (hk : Sl (ints .i64 k) k.length w) (hb : l.length < 2 ^ 63) (m : Mem) : CallR C (fnv fn_law07_ints) [.r v, .r w] m (.ret (bo (decide (l = k))) m) := by
  by_cases e : l.length = k.length
  case neg =>
    have e1 : ((l.length : Int) == (k.length : Int)) = false := by simpa using fun h : (l.length : Int) = k.length => e (by omega)
    rw [decide_eq_false (fun h => e (by rw [h]))]
    have e2 : ((l.length : Int) = (k.length : Int)) = False := eq_false (by omega)
    exact CallR.eval0 rfl rfl prog_law07_ints rfl ⟨0, fun n hn => by simp [a_law07_ints, hl.len, hk.len, e1, e2]⟩
  have key := Loop.run (C := C) (c := l_law07_ints_0) (live := [0, 1, 5]) (fun r s => ∃ i : Nat, i + r = l.length ∧ At1 [0, 1, 5] [(0, .r v), (1, .r w), (5, i64 i)] { h := m.h } s ∧ ∀ j (h : j < i) (h1 : j < l.length) (h2 : j < k.length), l[j] = k[j])
    (fun o s => s.m = { h := m.h } ∧ s.defs = [] ∧ ((o = .ret ∧ eget s.env 4 = bo false ∧ l ≠ k) ∨ (o = .exit 0 ∧ l = k))) (by
    rintro r s ⟨i, hik, ⟨he, hm, hd, hr⟩, hx⟩
    rw [he]
    cases r with
    | zero =>
      have hi : i = l.length := by omega
      subst hi
      exact ⟨.exit 0, _, .of fun K => by simp [l_law07_ints_0, hl.len]; rfl, .inr ⟨by simp, by simp [hm], by simp [hd], .inr ⟨rfl, List.ext_getElem e fun j h1 h2 => hx j h1 h1 h2⟩⟩⟩
    | succ r =>
      have hi : i < l.length := by omega
      have hi2 : i < k.length := by omega
      have e1 : ((i : Int) < (l.length : Int)) = True := eq_true (by omega)
      have w1 : IntKind.wrap .i64 ((i : Int) + 1) = i + 1 := by rw [w64] <;> omega
      by_cases hq : l[i] = k[i]
      · have hq' : (l[i] == k[i]) = true := by simpa using hq
        exact ⟨.norm, _, .of fun K => by simp [l_law07_ints_0, hl.len, e1, hl.at hi, hk.at hi2, load_ints hi, load_ints hi2, hq', hq, w1]; rfl, .inl ⟨rfl, r, by omega, i + 1, by omega, ⟨by simp, by simp [hm], by simp [hd], by simp [hr]⟩, fun j hj h1 h2 => by
          by_cases ej : j = i
          · subst ej; exact hq
          · exact hx j (by omega) h1 h2⟩⟩
      · have hq' : (l[i] == k[i]) = false := by simpa using hq
        exact ⟨.ret, _, .of fun K => by simp [l_law07_ints_0, hl.len, e1, hl.at hi, hk.at hi2, load_ints hi, load_ints hi2, hq', hq]; rfl, .inr ⟨by simp, by simp [hm], by simp [hd], .inl ⟨rfl, by simp, fun h => hq (by subst h; rfl)⟩⟩⟩)
  obtain ⟨o, s, h1, h2, h3, h4, h5⟩ := key l.length { env := [(5, i64 0), (0, .r v), (1, .r w), (10, bo false)], m := { h := m.h } } ⟨0, by simp, ⟨by simp, rfl, rfl, rfl⟩, fun j h => by omega⟩
  obtain ⟨c0, h1⟩ := h1.get
  rcases h5 with ⟨rfl, h5, h6⟩ | ⟨rfl, h6⟩
  · rw [decide_eq_false h6]
    exact CallR.eval0 rfl rfl prog_law07_ints rfl ⟨c0, fun n hn => by simp [a_law07_ints, hl.len, hk.len, e, h1 n hn, h4, h5, h3]⟩
  · rw [decide_eq_true h6]
    exact CallR.eval0 rfl rfl prog_law07_ints rfl ⟨c0, fun n hn => by simp [a_law07_ints, hl.len, hk.len, e, h1 n hn, h4, h3]⟩
theorem law07_votes_spec {l k : List Int} {v w : RV} (hl : Sl (ints .u8 l) l.length v) (hk : Sl (ints .u8 k) k.length w) (hb : l.length < 2 ^ 63) (m : Mem) : CallR C (fnv fn_law07_votes) [.r v, .r w] m (.ret (bo (decide (l = k))) m) := by
  by_cases e : l.length = k.length
  case neg =>
    have e1 : ((l.length : Int) == (k.length : Int)) = false := by simpa using fun h : (l.length : Int) = k.length => e (by omega)
    rw [decide_eq_false (fun h => e (by rw [h]))]
    have e2 : ((l.length : Int) = (k.length : Int)) = False := eq_false (by omega)
    exact CallR.eval0 rfl rfl prog_law07_votes rfl ⟨0, fun n hn => by simp [a_law07_votes, hl.len, hk.len, e1, e2]⟩
  have key := Loop.run (C := C) (c := l_law07_votes_0) (live := [0, 1, 5]) (fun r s => ∃ i : Nat, i + r = l.length ∧ At1 [0, 1, 5] [(0, .r v), (1, .r w), (5, i64 i)] { h := m.h } s ∧ ∀ j (h : j < i) (h1 : j < l.length) (h2 : j < k.length), l[j] = k[j])
    (fun o s => s.m = { h := m.h } ∧ s.defs = [] ∧ ((o = .ret ∧ eget s.env 4 = bo false ∧ l ≠ k) ∨ (o = .exit 0 ∧ l = k))) (by
    rintro r s ⟨i, hik, ⟨he, hm, hd, hr⟩, hx⟩
    rw [he]
    cases r with
    | zero =>
      have hi : i = l.length := by omega
      subst hi
      exact ⟨.exit 0, _, .of fun K => by simp [l_law07_votes_0, hl.len]; rfl, .inr ⟨by simp, by simp [hm], by simp [hd], .inr ⟨rfl, List.ext_getElem e fun j h1 h2 => hx j h1 h1 h2⟩⟩⟩
    | succ r =>
      have hi : i < l.length := by omega
      have hi2 : i < k.length := by omega
      have e1 : ((i : Int) < (l.length : Int)) = True := eq_true (by omega)
      have w1 : IntKind.wrap .i64 ((i : Int) + 1) = i + 1 := by rw [w64] <;> omega
      by_cases hq : l[i] = k[i]
      · have hq' : (l[i] == k[i]) = true := by simpa using hq
        exact ⟨.norm, _, .of fun K => by simp [l_law07_votes_0, hl.len, e1, hl.at hi, hk.at hi2, load_ints hi, load_ints hi2, hq', hq, w1]; rfl, .inl ⟨rfl, r, by omega, i + 1, by omega, ⟨by simp, by simp [hm], by simp [hd], by simp [hr]⟩, fun j hj h1 h2 => by
          by_cases ej : j = i
          · subst ej; exact hq
          · exact hx j (by omega) h1 h2⟩⟩
      · have hq' : (l[i] == k[i]) = false := by simpa using hq
        exact ⟨.ret, _, .of fun K => by simp [l_law07_votes_0, hl.len, e1, hl.at hi, hk.at hi2, load_ints hi, load_ints hi2, hq', hq]; rfl, .inr ⟨by simp, by simp [hm], by simp [hd], .inl ⟨rfl, by simp, fun h => hq (by subst h; rfl)⟩⟩⟩)
  obtain ⟨o, s, h1, h2, h3, h4, h5⟩ := key l.length { env := [(5, i64 0), (0, .r v), (1, .r w), (10, bo false)], m := { h := m.h } } ⟨0, by simp, ⟨by simp, rfl, rfl, rfl⟩, fun j h => by omega⟩
  obtain ⟨c0, h1⟩ := h1.get
  rcases h5 with ⟨rfl, h5, h6⟩ | ⟨rfl, h6⟩
  · rw [decide_eq_false h6]
    exact CallR.eval0 rfl rfl prog_law07_votes rfl ⟨c0, fun n hn => by simp [a_law07_votes, hl.len, hk.len, e, h1 n hn, h4, h5, h3]⟩
  · rw [decide_eq_true h6]
    exact CallR.eval0 rfl rfl prog_law07_votes rfl ⟨c0, fun n hn => by simp [a_law07_votes, hl.len, hk.len, e, h1 n hn, h4, h3]⟩
end Go.AM.T
/- What the functions compute (own work). -/
namespace Go.AM.T
open Go Go.AM
attribute [local simp] so_mov so_pick so_alloc so_box so_build so_slit so_load so_store so_nilc so_bin so_beq so_eqs so_eqn so_eqnl so_not so_conv so_s2b so_mkfn so_slcA so_padd so_fld so_idxA so_idxV so_idxT so_look so_mupd so_mkmap so_mksl so_ext so_app so_lenT so_lenM so_min so_max so_cpy so_clr so_mkif so_tass so_lenS so_idxS so_slc
attribute [local simp] dn_skip dn_label dn_ret dn_exit dn_scope dn_keep dn_reg dn_draw0 noSlots denE denEI stepE  sd_mov sd_pick sd_build sd_load sd_store sd_nilc sd_bin sd_beq sd_eqs sd_eqn sd_eqnl sd_not sd_conv sd_s2b sd_mkfn sd_slc sd_slcA sd_padd sd_fld sd_idxS sd_idxA sd_idxV sd_idxT sd_look sd_mupd sd_ext sd_app sd_lenS sd_lenT sd_lenM sd_min sd_max sd_mkif sd_tass sd_call sd_slit dn_seq dn_cond dn_block dn_loop kn_call denIs denI denOp wants ev eget putD binL enumFrom AV.bool? AV.int? ekeep evs evp runV fin runDefs resAll resOf tupOf unit AV.cells okV ok1 Value.oneCell' fill setN rcells rs_nil rs_cons load_own load_cons mkAgg_rs storeN jmpOut
attribute [local simp] dvL dv1t dvAt mkAgg2 dv0 dv1 dv2 dv3 dv4 dv5 dv6 dv7 dv8 dv9 dv10 dvA dvN dvAll C_fz fzr
theorem gq {l : List Blk} {i : Nat} {b : Blk} (h : l[i]? = some b) : ∀ hh, l[i]'hh = b := fun hh => by rw [List.getElem?_eq_getElem hh] at h; exact Option.some.inj h
theorem fz_tup {m : Mem} {n k : Nat} {vs xs : List AV} (h : fzs m n k vs = some xs) : fz m n (k + 1) (.tup vs) = some (.tup xs) := by rw [fz]; simp only [h]
theorem fzs_one {m : Mem} {n k : Nat} {v x : AV} {vs xs : List AV} (h1 : fz m n k v = some x) (h2 : fzs m n k vs = some xs) : fzs m n (k + 1) (v :: vs) = some (x :: xs) := by rw [fzs, h1, h2]
theorem wrAll_self (h : List Blk) : wrAll h.length { h := h } = [] := by simp [wrAll]
theorem apartL_nil (l : List Nat) : apartL [] l = true := rfl
/-- Growing a slice, with all that stays. -/
theorem GS.app2 {H : List Blk} {L : Nat} {T : TypeId} {sz n k : Nat} {cs new : List RV} {pv : AV} (h : GS H L T sz cs n pv) (W : List Nat) (bytes : Nat) (c : Option Nat) (hL : L ≤ H.length) (hk : 0 < k) (hn : new.length = k * sz) (hr : roomOk (n + k) bytes) :
    ∃ B g H' W', appendA { h := H, wr := W } T sz bytes pv (.r (.sl new k c)) = some (.osl B g 0 (n + k) sz none, { h := H', wr := W' }) ∧ L ≤ B ∧ GS H' L T sz (cs ++ new) (n + k) (.osl B g 0 (n + k) sz none) ∧
      (∀ j, j < H.length → j ∉ avIdx pv → H'[j]? = H[j]?) ∧ (B ∈ avIdx pv ∨ B = H.length) ∧ H.length ≤ H'.length ∧ H'.take L = H.take L ∧ ∀ x ∈ W', x ∈ W ∨ L ≤ x := by
  have hsl : ∀ m, slCells m (.r (.sl new k c)) sz = some (rs new, k) := fun m => by simp only [slCells]; rw [if_pos hn]
  cases h with
  | nil e1 e2 =>
    subst e1; subst e2
    refine ⟨H.length, 0, H ++ [.cells (rs new) T 0], W, ?_, hL, ?_, ?_, .inr rfl, by simp, List.take_append_of_le_length hL, fun x hx => .inl hx⟩
    · unfold appendA
      rw [hsl]
      simp only
      rw [if_neg (by omega), if_pos (by simpa using hr)]
      simp
    · exact GS.osl H.length 0 hL (by simp) (by omega) (by simpa using hn)
    · intro j hj _; rw [List.getElem?_append_left hj]
  | osl B g h1 h2 h3 h4 =>
    have hB := getElem?_lt h2
    refine ⟨B, g + 1, H.set B (.cells (rs (cs ++ new)) T (g + 1)), B :: W, ?_, h1, ?_, ?_, .inl (by simp [avIdx]), by simp, List.take_set_of_le h1, ?_⟩
    · unfold appendA
      rw [hsl]
      simp only [h2]
      rw [if_pos ⟨trivial, trivial, trivial, by rw [rs_len]; omega, hr⟩, if_neg (by omega), List.take_of_length_le (by rw [rs_len]; omega), rs_append]
    · exact GS.osl B (g + 1) h1 (List.getElem?_set_self hB) (by omega) (by rw [List.length_append, Nat.add_mul]; omega)
    · intro j hj hn
      simp [avIdx] at hn
      rw [List.getElem?_set_ne (by omega)]
    · intro x hx
      rcases List.mem_cons.1 hx with rfl | hx
      · exact .inr h1
      · exact .inl hx
/-- A loop over the truths: what its function holds (`P`), the slice that it grows (`cs`, `nn`), the places of its code. -/
structure Lp (σ : Type) where
  E : Env
  pt : Nat
  tt : Nat
  bd : AC
  k : Nat
  P : σ → AV → List Blk
  T : TypeId
  sz : Nat
  cs : σ → List RV
  nn : σ → Nat
  jb : Nat
  Tb : TypeId
  alive : σ → Bool
  rank : σ → Nat
  N : Nat
  step : σ → List Int → σ × Bool
def Lp.as {σ : Type} (l : Lp σ) : AC := .reg [⟨none, some l.tt, .alloc ty_tally_truth z_tally_truth⟩, ⟨none, none, .store 40 (.t l.tt) (.t l.pt)⟩]
def stOf (a : Bool) : LSt := if a then .ready else .done
def pdOf (a : Bool) : Option Jmp := if a then none else some .ret
def Lp.blk {σ : Type} (l : Lp σ) (st : LSt) (pd : Option Jmp) : Blk := .loop l.E [l.pt] l.as l.bd st pd
/-- What lies below. -/
def Lp.low {σ : Type} (l : Lp σ) (m : Mem) (s : σ) (v : AV) (st : LSt) (pd : Option Jmp) : List Blk := m.h ++ l.P s v ++ [.dfr, l.blk st pd]
/-- One round of the body. -/
def Lp.Body {σ : Type} (l : Lp σ) (m : Mem) : Prop :=
  ∀ (s : σ) (v : AV) (t : List Int) (Hb : List Blk) (W : List Nat) (X : Nat), l.alive s = true → l.rank s < l.N → TOk t → Hb.take (m.h.length + l.k + 2) = l.low m s v .busy none → GS Hb (m.h.length + l.k + 2) l.T l.sz (l.cs s) (l.nn s) v →
    m.h.length + l.k + 2 ≤ X → X ∉ avIdx v → Hb[X]? = some (.cells (rs (ints .u8 t)) ty_tally_truth 0) →
    ∃ s2 o v', Den C l.bd { env := (l.tt, .own X 0 0) :: (l.pt, .r (.agg (ints .u8 t))) :: l.E, m := { h := Hb, wr := W }, round := some (m.h.length + l.k + 1) } o s2 ∧
      ((o = .norm ∧ (l.step s t).2 = true) ∨ (o = .ret ∧ (l.step s t).2 = false)) ∧ s2.m.h.take (m.h.length + l.k + 2) = l.low m (l.step s t).1 v' .busy none ∧ GS s2.m.h (m.h.length + l.k + 2) l.T l.sz (l.cs (l.step s t).1) (l.nn (l.step s t).1) v' ∧
      (∀ j, m.h.length + l.k + 2 ≤ j → j < Hb.length → j ∉ avIdx v → s2.m.h[j]? = Hb[j]?) ∧ Hb.length ≤ s2.m.h.length ∧ (∀ x ∈ s2.m.wr, x ∈ W ∨ m.h.length ≤ x) ∧
      (∀ j ∈ avIdx v', j ∈ avIdx v ∨ Hb.length ≤ j) ∧ (v' = v ∨ (m.h.length + l.jb ∈ s2.m.wr ∧ (l.P (l.step s t).1 v')[l.jb]? = some (.cells [v'] l.Tb 0)))
structure Lp.Ok {σ : Type} (l : Lp σ) (m : Mem) : Prop where
  len : ∀ s v, (l.P s v).length = l.k
  al : ∀ s t, l.alive (l.step s t).1 = (l.step s t).2
  rk : ∀ s t, l.rank (l.step s t).1 ≤ l.rank s + 1
  jb : l.jb < l.k
  body : l.Body m
/-- What a heap holds between two rounds. -/
def Lp.J {σ : Type} (l : Lp σ) (m : Mem) (s : σ) (H : List Blk) (F : List Nat) : Prop :=
  ∃ v, H.take (m.h.length + l.k + 2) = l.low m s v (stOf (l.alive s)) (pdOf (l.alive s)) ∧ GS H (m.h.length + l.k + 2) l.T l.sz (l.cs s) (l.nn s) v ∧ F = avIdx v
theorem take_get {α : Type} {H X : List α} {n j : Nat} (h : H.take n = X) (hj : j < n) : H[j]? = X[j]? := by rw [← h, List.getElem?_take_of_lt hj]
theorem take_ext {α : Type} {H H' : List α} {n : Nat} (hl : n ≤ H.length) (hl' : n ≤ H'.length) (h : ∀ j, j < n → H'[j]? = H[j]?) : H'.take n = H.take n := by
  refine List.ext_getElem? fun j => ?_
  by_cases hj : j < n
  · rw [List.getElem?_take_of_lt hj, List.getElem?_take_of_lt hj, h j hj]
  · rw [List.getElem?_eq_none (by simp; omega), List.getElem?_eq_none (by simp; omega)]
theorem GS.idx {H : List Blk} {L : Nat} {T : TypeId} {sz n : Nat} {cs : List RV} {v : AV} (h : GS H L T sz cs n v) : ∀ j ∈ avIdx v, L ≤ j ∧ j < H.length := by
  intro j hj
  cases h with
  | nil => simp [avIdx] at hj
  | osl B g h1 h2 h3 h4 =>
    simp [avIdx] at hj
    subst hj
    exact ⟨h1, getElem?_lt h2⟩
theorem GS.same {H H' : List Blk} {L : Nat} {T : TypeId} {sz n : Nat} {cs : List RV} {v : AV} (h : GS H L T sz cs n v) (hk : ∀ j ∈ avIdx v, H'[j]? = H[j]?) : GS H' L T sz cs n v := by
  cases h with
  | nil e1 e2 => exact .nil e1 e2
  | osl B g h1 h2 h3 h4 => exact .osl B g h1 (by rw [hk B (by simp [avIdx])]; exact h2) h3 h4
section
variable {σ : Type} {l : Lp σ} {m : Mem}
theorem Lp.low_len (h : l.Ok m) (s : σ) (v : AV) (st : LSt) (pd : Option Jmp) : (l.low m s v st pd).length = m.h.length + l.k + 2 := by
  unfold Lp.low
  simp [h.len]; omega
theorem Lp.low_at (h : l.Ok m) (s : σ) (v : AV) (st : LSt) (pd : Option Jmp) : (l.low m s v st pd)[m.h.length + l.k + 1]? = some (l.blk st pd) := by
  unfold Lp.low
  rw [List.getElem?_append_right (by simp [h.len])]
  simp [h.len, Nat.add_sub_cancel_left, show m.h.length + l.k + 1 - (m.h.length + l.k) = 1 by omega]
theorem Lp.low_set (h : l.Ok m) (s : σ) (v : AV) (st st' : LSt) (pd pd' : Option Jmp) : (l.low m s v st pd).set (m.h.length + l.k + 1) (l.blk st' pd') = l.low m s v st' pd' := by
  unfold Lp.low
  rw [List.set_append_right _ _ (by simp [h.len])]
  simp [h.len, show m.h.length + l.k + 1 - (m.h.length + l.k) = 1 by omega]
theorem Lp.J.len (h : l.Ok m) {s : σ} {H : List Blk} {F : List Nat} (hJ : l.J m s H F) : m.h.length + l.k + 2 ≤ H.length := by
  obtain ⟨v, h1, _⟩ := hJ
  have := congrArg List.length h1
  rw [List.length_take, Lp.low_len h] at this
  omega
theorem Lp.yld (h : l.Ok m) (hpt : l.tt ≠ l.pt) : YldOk l.alive l.rank l.N (m.h.length + l.k + 1) (m.h.length + l.k + 2) m.h.length (l.J m) l.step where
  le := by omega
  al := h.al
  rk := h.rk
  frame := fun s H H' F hJ hl hj => by
    have hlen := hJ.len h
    obtain ⟨v, h1, h2, rfl⟩ := hJ
    refine ⟨v, ?_, h2.same fun j hm => hj j (h2.idx j hm).2 (.inr hm), rfl⟩
    rw [← h1]
    exact take_ext hlen (by omega) fun j hjl => hj j (by omega) (.inl hjl)
  lt := fun s H F hJ j hj => by
    obtain ⟨v, h1, h2, rfl⟩ := hJ
    exact h2.idx j hj
  call := by
    intro s H W F t hal hrk ht hJ hlen
    obtain ⟨v, h1, hG, rfl⟩ := hJ
    rw [hal] at h1
    have l40 : (ints .u8 t).length = 40 := by rw [ints_len]; exact ht.1
    obtain ⟨n0, hn0⟩ : ∃ n0, n0 = m.h.length + l.k + 2 := ⟨_, rfl⟩
    obtain ⟨i, hi⟩ : ∃ i, i = m.h.length + l.k + 1 := ⟨_, rfl⟩
    have hlow : ∀ st pd, (l.low m s v st pd)[i]? = some (l.blk st pd) := fun st pd => by rw [hi]; exact Lp.low_at h s v st pd
    obtain ⟨H1, hH1⟩ : ∃ H1, H1 = H ++ [.cells (rs (ints .u8 t)) ty_tally_truth 0] := ⟨_, rfl⟩
    have hb0 : H[i]? = some (l.blk .ready none) := by rw [take_get h1 (by omega)]; exact hlow _ _
    have hb1 : H1[i]? = some (l.blk .ready none) := by rw [hH1, List.getElem?_append_left (by omega)]; exact hb0
    obtain ⟨Hb, hHb⟩ : ∃ Hb, Hb = H1.set i (l.blk .busy none) := ⟨_, rfl⟩
    have hbl : Hb.length = H.length + 1 := by simp [hHb, hH1]
    have htk : Hb.take (m.h.length + l.k + 2) = l.low m s v .busy none := by
      rw [hHb, List.take_set, hH1, List.take_append_of_le_length (by omega), h1, hi]
      exact Lp.low_set h _ _ _ _ _ _
    have hup : ∀ j, j ≠ i → j < H.length → Hb[j]? = H[j]? := fun j hj hjl => by
      rw [hHb, List.getElem?_set_ne (Ne.symm hj), hH1, List.getElem?_append_left hjl]
    have hT : Hb[H.length]? = some (.cells (rs (ints .u8 t)) ty_tally_truth 0) := by rw [hHb, List.getElem?_set_ne (by omega), hH1]; simp
    have hXF : H.length ∉ avIdx v := fun hm => by have := (hG.idx _ hm).2; omega
    have hGb : GS Hb (m.h.length + l.k + 2) l.T l.sz (l.cs s) (l.nn s) v := hG.same fun j hm => by
      have := hG.idx j hm
      exact hup j (by omega) this.2
    obtain ⟨s2, o, v', k2, ho, htk2, hG2, hfr, hl2, hw2, hix, hvv⟩ := h.body s v t Hb [i, H.length] H.length hal hrk ht htk hGb (by omega) hXF hT
    rw [← hi] at k2
    -- the round's end
    obtain ⟨a, ha⟩ : ∃ a, a = (l.step s t).2 := ⟨_, rfl⟩
    have hoj : outJmp o = pdOf a := by
      rcases ho with ⟨rfl, e⟩ | ⟨rfl, e⟩ <;> rw [ha, e] <;> rfl
    have hst : (if (outJmp o).isNone then LSt.ready else LSt.done) = stOf a := by rw [hoj]; cases a <;> rfl
    have hbo : (outJmp o).isNone = a := by rw [hoj]; cases a <;> rfl
    obtain ⟨X, hX⟩ : ∃ X, X = s2.m.h.set i (l.blk (stOf a) (pdOf a)) := ⟨_, rfl⟩
    have hXl : X.length = s2.m.h.length := by simp [hX]
    have hs2i : s2.m.h[i]? = some (l.blk .busy none) := by rw [take_get htk2 (by omega), hi]; exact Lp.low_at h _ _ _ _
    have hXt : X.take (m.h.length + l.k + 2) = l.low m (l.step s t).1 v' (stOf a) (pdOf a) := by
      rw [hX, List.take_set, htk2, hi]; exact Lp.low_set h _ _ _ _ _ _
    have hXj : ∀ j, m.h.length + l.k + 2 ≤ j → X[j]? = s2.m.h[j]? := fun j hj => by rw [hX, List.getElem?_set_ne (by omega)]
    have hGX : GS X (m.h.length + l.k + 2) l.T l.sz (l.cs (l.step s t).1) (l.nn (l.step s t).1) v' := hG2.same fun j hm => hXj j (hG2.idx j hm).1
    -- what is left
    have hset : ∃ H', Go.AM.settle C.fz false { h := H, wr := W } (bo a) { h := X, wr := i :: s2.m.wr } = (bo a, { h := H', wr := oldWr H.length (i :: s2.m.wr) ++ W }) ∧ (H' = X ∨ (H' = X.take H.length ∧ ∀ j ∈ avIdx v', j < H.length)) := by
      unfold Go.AM.settle
      simp only [Bool.false_eq_true, if_false, show fz { h := X, wr := i :: s2.m.wr } H.length C.fz (bo a) = some (bo a) from rfl]
      split
      · rename_i hall
        refine ⟨_, rfl, .inr ⟨rfl, fun j hj => ?_⟩⟩
        rcases hvv with e | ⟨e1, e2⟩
        · rw [e] at hj; exact (hG.idx j hj).2
        · rw [List.all_eq_true] at hall
          have hjb := h.jb
          have hmem : m.h.length + l.jb ∈ oldWr H.length (i :: s2.m.wr) := by
            unfold oldWr
            rw [List.mem_filter]
            exact ⟨List.mem_cons_of_mem _ e1, by simp; omega⟩
          have hc := hall _ hmem
          have hXb : X[m.h.length + l.jb]? = some (.cells [v'] l.Tb 0) := by
            rw [take_get hXt (by omega)]
            unfold Lp.low
            rw [List.getElem?_append_left (by simp [h.len]; omega), List.getElem?_append_right (by omega), Nat.add_sub_cancel_left]
            exact e2
          rw [hXb] at hc
          simp only [blkLt, lt0s, Bool.and_true] at hc
          cases hGX with
          | nil => simp [avIdx] at hj
          | osl B g q1 q2 q3 q4 =>
            simp [avIdx] at hj
            subst hj
            simpa [lt0] using hc
      · exact ⟨_, rfl, .inl rfl⟩
    obtain ⟨H', hset, hH'⟩ := hset
    have hH'l : H.length ≤ H'.length := by
      rcases hH' with rfl | ⟨rfl, _⟩
      · omega
      · rw [List.length_take]; omega
    have hH'j : ∀ j, j < H.length → H'[j]? = X[j]? := fun j hj => by
      rcases hH' with rfl | ⟨rfl, _⟩
      · rfl
      · rw [List.getElem?_take_of_lt hj]
    refine ⟨H', oldWr H.length (i :: s2.m.wr) ++ W, avIdx v', ?_, ⟨v', ?_, ?_, rfl⟩, hH'l, fun j hj1 hj2 hj3 => ⟨?_, fun hm => ?_⟩, fun x hx => ?_⟩
    · rw [← ha, ← hi]
      refine CallR.round (q2 := []) (a3 := .skip) (b3 := .skip) (s1 := { env := (l.tt, .own H.length 0 0) :: (l.pt, .r (.agg (ints .u8 t))) :: l.E, m := { h := H1, wr := [H.length] }, round := some i }) (s2 := s2) (o := o) hb0 rfl (.of fun K => ?_) hb1 (by have k3 := k2; rw [hHb] at k3; exact k3) (fun v h => by rcases ho with ⟨rfl, _⟩ | ⟨rfl, _⟩ <;> cases h) ?_
      · have hZl : (rs z_tally_truth).length = 40 := by rw [rs_len, truth_zero, ints_len]; simp
        have hZd : List.drop 40 (rs z_tally_truth) = [] := List.drop_eq_nil_of_le (by omega)
        obtain ⟨I, hI⟩ : ∃ I, I = ints .u8 t := ⟨_, rfl⟩
        obtain ⟨Z, hZ⟩ : ∃ Z, Z = rs z_tally_truth := ⟨_, rfl⟩
        rw [← hI] at hH1 l40 ⊢
        rw [← hZ] at hZl hZd
        rw [hH1]
        simp [Lp.as, ← hZ, rs_len, l40, hZl, hZd, hpt]
      · unfold roundEnd
        rw [hs2i]
        simp only [Lp.blk, hbo, hst]
        rw [hoj]
        have : s2.m.h.set i (.loop l.E [l.pt] l.as l.bd (stOf a) (pdOf a)) = X := hX.symm
        rw [show (if a = true then LSt.ready else LSt.done) = stOf a from rfl, this, hset]
    · rw [h.al, ← ha, ← hXt]
      exact take_ext (by omega) (by omega) fun j hj => hH'j j (by omega)
    · refine hGX.same fun j hm => ?_
      rcases hH' with rfl | ⟨rfl, hlt⟩
      · rfl
      · rw [List.getElem?_take_of_lt (hlt j hm)]
    · rw [hH'j j hj2, hXj j hj1, hfr j hj1 (by omega) hj3, hup j (by omega) hj2]
    · rcases hix j hm with h' | h'
      · exact hj3 h'
      · omega
    · rcases List.mem_append.1 hx with hx | hx
      · unfold oldWr at hx
        have hx1 := (List.mem_filter.1 hx).1
        rcases List.mem_cons.1 hx1 with rfl | hx1
        · exact .inr (by omega)
        · rcases hw2 x hx1 with h' | h'
          · simp only [List.mem_cons, List.not_mem_nil, or_false] at h'
            exact .inr (by omega)
          · exact .inr h'
      · exact .inl hx
/-- A whole loop over the truths. -/
theorem Lp.range (h : l.Ok m) (hpt : l.tt ≠ l.pt) {d : Div} (hn : 1 ≤ d.n ∧ d.n ≤ 40) {R : List RV} (hR0 : ∀ m, loadV m (.r (.ptr R)) 1 false = some (i64 d.n))
    (hRm : ∀ m (k : Nat), k < 40 → (k : Int) < d.n → loadV m (.r (.ptr (R.drop (51 + k)))) 1 false = some (.r (slU (may d k)))) {q : Nat} (hq : eget l.E q = .r (.fn fn_tally_looked_truths_1 [] [.ptr R])) (s0 : σ) (hal : l.alive s0 = true) (hrk : l.rank s0 + (truthsOf d).length ≤ l.N) (hc0 : l.cs s0 = []) (hn0 : l.nn s0 = 0) (W : List Nat) :
    ∃ H' W' v, Den C (.rangeF (.t q) [l.pt] l.as l.bd) { env := l.E, m := { h := m.h ++ l.P s0 (.r .nil), wr := W } } (if l.alive (foldS l.step s0 (truthsOf d)).1 then .norm else .ret) { env := l.E, m := { h := H', wr := W' }, defs := [.dfr (m.h.length + l.k)] } ∧
      H'.take (m.h.length + l.k + 2) = m.h ++ l.P (foldS l.step s0 (truthsOf d)).1 v ++ [.dfr, .dead] ∧ GS H' (m.h.length + l.k + 2) l.T l.sz (l.cs (foldS l.step s0 (truthsOf d)).1) (l.nn (foldS l.step s0 (truthsOf d)).1) v ∧ ∀ x ∈ W', x ∈ W ∨ m.h.length ≤ x := by
  obtain ⟨H0, hH0⟩ : ∃ H0, H0 = m.h ++ l.P s0 (.r .nil) := ⟨_, rfl⟩
  have hl0 : H0.length = m.h.length + l.k := by simp [hH0, h.len]
  obtain ⟨H1, hH1⟩ : ∃ H1, H1 = H0 ++ [.dfr, l.blk .ready none] := ⟨_, rfl⟩
  have hl1 : H1.length = m.h.length + l.k + 2 := by simp [hH1, hl0]
  have hJ0 : l.J m s0 H1 [] := ⟨.r .nil, by rw [hal, List.take_of_length_le (by omega), hH1, hH0]; rfl, by rw [hc0, hn0]; exact .nil rfl rfl, rfl⟩
  obtain ⟨H', W', F', k1, hJ, hl, hfr, hw⟩ := iter_spec (Lp.yld h hpt) hn hR0 hRm W hal hrk hJ0 (by omega)
  obtain ⟨sF, hsF⟩ : ∃ sF, sF = (foldS l.step s0 (truthsOf d)).1 := ⟨_, rfl⟩
  rw [← hsF] at hJ ⊢
  have hlenJ := hJ.len h
  obtain ⟨v, h1, h2, rfl⟩ := hJ
  have hlp : H'[m.h.length + l.k + 1]? = some (l.blk (stOf (l.alive sF)) (pdOf (l.alive sF))) := by rw [take_get h1 (by omega)]; exact Lp.low_at h _ _ _ _
  refine ⟨H'.set (m.h.length + l.k + 1) .dead, (m.h.length + l.k + 1) :: W', v, ?_, ?_, ?_, fun x hx => ?_⟩
  · have hla : loopAt ({ env := l.E, m := { h := H0, wr := W } } : St) = m.h.length + l.k + 1 := by simp [loopAt, hl0]
    have hlh : loopHeap ({ env := l.E, m := { h := H0, wr := W } } : St) [l.pt] l.as l.bd = H1 := by simp [loopHeap, hH1, Lp.blk]
    have hld : loopDefs ({ env := l.E, m := { h := H0, wr := W } } : St) = [.dfr (m.h.length + l.k)] := by simp [loopDefs, hl0]
    have := Den.rangeF (C := C) (s := { env := l.E, m := { h := H0, wr := W } }) (f := .t q) (ps := [l.pt]) (as := l.as) (bd := l.bd) (v := .tup []) (m := { h := H', wr := W' }) (env := l.E) (q1 := [l.pt]) (q2 := l.as) (q3 := l.bd) (st := stOf (l.alive sF)) (pend := pdOf (l.alive sF)) rfl (by simp only [ev, hq]; rfl) (by
      rw [hla, hlh]
      simp only [ev, hq]
      exact k1) (by rw [hla]; exact hlp) (by cases l.alive sF <;> simp [stOf])
    rw [hla, hld] at this
    rw [← hH0]
    have ho : jmpOut (pdOf (l.alive sF)) = (if l.alive sF then .norm else .ret) := by cases l.alive sF <;> rfl
    rw [ho] at this
    exact this
  · rw [List.take_set, h1]
    unfold Lp.low
    rw [List.set_append_right _ _ (by simp [h.len])]
    simp [h.len, show m.h.length + l.k + 1 - (m.h.length + l.k) = 1 by omega]
  · exact h2.same fun j hm => by
      have := h2.idx j hm
      rw [List.getElem?_set_ne (by omega)]
  · rcases List.mem_cons.1 hx with rfl | hx
    · exact .inr (by omega)
    · exact hw x hx
end
end Go.AM.T
/- What the functions compute (own work). -/
namespace Go.AM.T
open Go Go.AM
attribute [local simp] so_mov so_pick so_alloc so_box so_build so_slit so_load so_store so_nilc so_bin so_beq so_eqs so_eqn so_eqnl so_not so_conv so_s2b so_mkfn so_slcA so_padd so_fld so_idxA so_idxV so_idxT so_look so_mupd so_mkmap so_mksl so_ext so_app so_lenT so_lenM so_min so_max so_cpy so_clr so_mkif so_tass so_lenS so_idxS so_slc
attribute [local simp] dn_skip dn_label dn_ret dn_exit dn_scope dn_keep dn_reg dn_draw0 noSlots denE denEI stepE  sd_mov sd_pick sd_build sd_load sd_store sd_nilc sd_bin sd_beq sd_eqs sd_eqn sd_eqnl sd_not sd_conv sd_s2b sd_mkfn sd_slc sd_slcA sd_padd sd_fld sd_idxS sd_idxA sd_idxV sd_idxT sd_look sd_mupd sd_ext sd_app sd_lenS sd_lenT sd_lenM sd_min sd_max sd_mkif sd_tass sd_call sd_slit dn_seq dn_cond dn_block dn_loop kn_call denIs denI denOp wants ev eget putD binL enumFrom AV.bool? AV.int? ekeep evs evp runV fin runDefs resAll resOf tupOf unit AV.cells okV ok1 Value.oneCell' fill setN rcells rs_nil rs_cons load_own load_cons mkAgg_rs storeN jmpOut
attribute [local simp] dvL dv1t dvAt mkAgg2 dv0 dv1 dv2 dv3 dv4 dv5 dv6 dv7 dv8 dv9 dv10 dvA dvN dvAll C_fz fzr
/-- The reference's truths, that begin so. -/
def rtF (d : Div) : Nat → List Int → List (List Int)
  | 0, b => [b]
  | r + 1, b => (may d b.length).flatMap fun v => rtF d r (b ++ [v])
def rtOf (d : Div) : List (List Int) := rtF d d.n.toNat []
def pad (b : List Int) : List Int := b ++ List.replicate (40 - b.length) 0
theorem pad_set {b : List Int} (v : Int) (h : b.length < 40) : (pad b).set b.length v = pad (b ++ [v]) := by
  unfold pad
  rw [List.set_append_right _ _ (Nat.le_refl _), Nat.sub_self]
  obtain ⟨k, hk⟩ : ∃ k, 40 - b.length = k + 1 := ⟨40 - b.length - 1, by omega⟩
  have hk2 : 40 - (b ++ [v]).length = k := by simp; omega
  rw [hk, hk2, List.replicate_succ, List.set_cons_zero, List.append_assoc]; rfl
theorem truths_rt {d : Div} : ∀ (r : Nat) (b : List Int), b.length + r ≤ 40 → truthsFrom d r b.length (pad b) = (rtF d r b).map pad
  | 0, b, _ => rfl
  | r + 1, b, h => by
    unfold truthsFrom rtF
    rw [List.map_flatMap]
    congr 1
    funext v
    rw [pad_set v (by omega)]
    have := truths_rt (d := d) r (b ++ [v]) (by simp; omega)
    rw [← this]; simp
theorem truthsOf_rt {d : Div} (h : d.n ≤ 40) : truthsOf d = (rtOf d).map pad := by
  have := truths_rt (d := d) d.n.toNat [] (by simp; omega)
  exact this
theorem rtF_len {d : Div} : ∀ (r : Nat) (b u : List Int), u ∈ rtF d r b → u.length = b.length + r
  | 0, b, u, h => by unfold rtF at h; simp at h; rw [h]; rfl
  | r + 1, b, u, h => by
    unfold rtF at h
    obtain ⟨v, _, hu⟩ := List.mem_flatMap.1 h
    have := rtF_len r (b ++ [v]) u hu
    simp at this; omega
def VOk (u : List Int) : Prop := ∀ x ∈ u, x = 0 ∨ x = 1 ∨ x = 2
theorem VOk.snoc {b : List Int} {v : Int} (h : VOk b) (hv : v = 0 ∨ v = 1 ∨ v = 2) : VOk (b ++ [v]) := by
  intro x hx
  rcases List.mem_append.1 hx with hx | hx
  · exact h x hx
  · simp at hx; subst hx; exact hv
theorem may_v {d : Div} {x v : Int} (h : v ∈ may d x) : v = 0 ∨ v = 1 ∨ v = 2 := by have := may_ok h; omega
theorem rtF_ok {d : Div} : ∀ (r : Nat) (b u : List Int), VOk b → u ∈ rtF d r b → VOk u
  | 0, b, u, hb, h => by unfold rtF at h; simp at h; rw [h]; exact hb
  | r + 1, b, u, hb, h => by
    unfold rtF at h
    obtain ⟨v, hv, hu⟩ := List.mem_flatMap.1 h
    exact rtF_ok r (b ++ [v]) u (hb.snoc (may_v hv)) hu
theorem rtF_ne {d : Div} : ∀ (r : Nat) (b : List Int), (∀ k : Nat, k < b.length + r → may d k ≠ []) → rtF d r b ≠ []
  | 0, b, _ => by simp [rtF]
  | r + 1, b, h => by
    have h1 := h b.length (by omega)
    obtain ⟨v, hv⟩ := List.exists_mem_of_ne_nil _ h1
    have h2 := rtF_ne r (b ++ [v]) (fun k hk => h k (by simp at hk; omega))
    obtain ⟨u, hu⟩ := List.exists_mem_of_ne_nil _ h2
    intro e
    have : u ∈ rtF d (r + 1) b := by unfold rtF; exact List.mem_flatMap.2 ⟨v, hv, hu⟩
    rw [e] at this; cases this
/-- How many of some members are doubtful. -/
def dcnt (d : Div) (k : Nat) : Nat → Nat
  | 0 => 0
  | r + 1 => (if 1 < (may d k).length then 1 else 0) + dcnt d (k + 1) r
theorem may_len3 (d : Div) (x : Int) : (may d x).length ≤ 3 := by
  unfold may votesL
  rcases onB_cases d.a0 d.a1 x with e0 | e0 | e0 <;> rcases onB_cases d.n0 d.n1 x with e1 | e1 | e1 <;> rw [e0, e1] <;> decide
theorem flatMap_len_le {α β : Type} (f : α → List β) (c : Nat) : ∀ l : List α, (∀ x ∈ l, (f x).length ≤ c) → (l.flatMap f).length ≤ l.length * c
  | [], _ => by simp
  | x :: l, h => by
    have h1 := h x (by simp)
    have h2 := flatMap_len_le f c l (fun y hy => h y (by simp [hy]))
    simp only [List.flatMap_cons, List.length_append, List.length_cons, Nat.add_mul]
    omega
theorem rtF_count {d : Div} : ∀ (r : Nat) (b : List Int), (rtF d r b).length ≤ 3 ^ dcnt d b.length r
  | 0, b => by simp [rtF, dcnt]
  | r + 1, b => by
    unfold rtF dcnt
    have h := flatMap_len_le (fun v => rtF d r (b ++ [v])) (3 ^ dcnt d (b.length + 1) r) (may d b.length) (fun v _ => by
      have := rtF_count (d := d) r (b ++ [v])
      simpa using this)
    refine Nat.le_trans h ?_
    have h3 := may_len3 d b.length
    split
    · rw [Nat.pow_add, Nat.pow_one]
      exact Nat.mul_le_mul_right _ h3
    · rename_i hle
      rw [Nat.zero_add]
      calc (may d b.length).length * 3 ^ dcnt d (b.length + 1) r ≤ 1 * 3 ^ dcnt d (b.length + 1) r := Nat.mul_le_mul_right _ (by omega)
        _ = _ := Nat.one_mul _
theorem dcnt_filter (d : Div) : ∀ (r k : Nat), dcnt d k r = ((List.range' k r).filter fun (i : Nat) => decide (1 < (may d i).length)).length
  | 0, k => rfl
  | r + 1, k => by
    unfold dcnt
    rw [dcnt_filter d r (k + 1), List.range'_succ, List.filter_cons]
    split <;> rename_i h <;> simp [h] <;> omega
theorem dcnt_doubts (d : Div) : dcnt d 0 d.n.toNat = (doubtsL d).length := by
  unfold doubtsL
  rw [dcnt_filter, List.length_map, List.range_eq_range']
theorem rtOf_count {d : Div} (h : (doubtsL d).length ≤ 8) : (rtOf d).length ≤ 6561 := by
  have h1 := rtF_count (d := d) d.n.toNat []
  rw [List.length_nil, dcnt_doubts] at h1
  have h2 : 3 ^ (doubtsL d).length ≤ 3 ^ 8 := Nat.pow_le_pow_right (by omega) h
  exact Nat.le_trans h1 h2
theorem flatMap_mem_len {α β : Type} (f : α → List β) : ∀ (l : List α) (x : α), x ∈ l → (f x).length ≤ (l.flatMap f).length
  | y :: l, x, h => by
    simp only [List.flatMap_cons, List.length_append]
    rcases List.mem_cons.1 h with rfl | h
    · omega
    · have := flatMap_mem_len f l x h; omega
theorem may_filter (d : Div) (x : Int) : [0, 1, 2].filter (fun v => decide (v ∈ may d x)) = may d x := by
  unfold may votesL
  rcases onB_cases d.a0 d.a1 x with e0 | e0 | e0 <;> rcases onB_cases d.n0 d.n1 x with e1 | e1 | e1 <;> rw [e0, e1] <;> decide

/-- A slice of values that its function grows. -/
inductive GA (H : List Blk) (L : Nat) (T : TypeId) (cs : List AV) : AV → Prop
  | nil : cs = [] → GA H L T cs (.r .nil)
  | osl (B g : Nat) : L ≤ B → H[B]? = some (.cells cs T g) → 0 < cs.length → GA H L T cs (.osl B g 0 cs.length 1 none)
theorem GA.app {H : List Blk} {W : List Nat} {L : Nat} {T : TypeId} {bytes : Nat} {cs new : List AV} {pv y : AV} (h : GA H L T cs pv) (hL : L ≤ H.length) (hy : slCells { h := H, wr := W } y 1 = some (new, new.length)) (hk : 0 < new.length) (hr : roomOk (cs.length + new.length) bytes) :
    ∃ B g H' W', appendA { h := H, wr := W } T 1 bytes pv y = some (.osl B g 0 (cs.length + new.length) 1 none, { h := H', wr := W' }) ∧ (W' = W ∨ W' = B :: W) ∧ L ≤ B ∧ GA H' L T (cs ++ new) (.osl B g 0 (cs.length + new.length) 1 none) ∧
      (H' = H ++ [.cells (cs ++ new) T 0] ∨ (H' = H.set B (.cells (cs ++ new) T g) ∧ ∃ g', H[B]? = some (.cells cs T g') ∧ pv = .osl B g' 0 cs.length 1 none)) := by
  have hlen : cs.length + new.length = (cs ++ new).length := by simp
  cases h with
  | nil e =>
    subst e
    refine ⟨H.length, 0, H ++ [.cells new T 0], W, ?_, .inl rfl, hL, ?_, .inl rfl⟩
    · unfold appendA
      rw [hy]
      simp only
      rw [if_neg (by omega), if_pos (by simpa using hr)]
      simp
    · rw [hlen]; exact GA.osl H.length 0 hL (by simp) (by simp; omega)
  | osl B g h1 h2 h3 =>
    have hB := getElem?_lt h2
    refine ⟨B, g + 1, H.set B (.cells (cs ++ new) T (g + 1)), B :: W, ?_, .inr rfl, h1, ?_, .inr ⟨rfl, g, h2, rfl⟩⟩
    · unfold appendA
      rw [hy]
      simp only [h2]
      rw [if_pos ⟨trivial, trivial, trivial, by omega, hr⟩, if_neg (by omega), List.take_of_length_le (by omega)]
    · rw [hlen]; exact GA.osl B (g + 1) h1 (List.getElem?_set_self hB) (by simp; omega)
/-- A truth in a heap. -/
def Elt (H : List Blk) (L : Nat) (x : AV) (u : List Int) : Prop :=
  (∃ v, x = .r v ∧ Sl (ints .u8 u) u.length v) ∨ ∃ B g, L ≤ B ∧ x = .osl B g 0 u.length 1 none ∧ H[B]? = some (.cells (rs (ints .u8 u)) ty_uint8 g)
abbrev SlT (vs : List RV) (us : List (List Int)) : Prop := All2 (fun v u => Sl (ints .u8 u) u.length v) vs us
theorem Elt.fz {H : List Blk} {W : List Nat} {L : Nat} {x : AV} {u : List Int} (h : Elt H L x u) {k : Nat} (hk : u.length + 1 < k) : ∃ v, Go.AM.fz { h := H, wr := W } L k x = some (.r v) ∧ Sl (ints .u8 u) u.length v := by
  obtain ⟨k, rfl⟩ : ∃ j, k = j + 1 := ⟨k - 1, by omega⟩
  rcases h with ⟨v, rfl, hv⟩ | ⟨B, g, h1, rfl, h2⟩
  · exact ⟨v, rfl, hv⟩
  · exact ⟨_, fz_osl (t := ty_uint8) h2 h1 (by rw [ints_len]; omega) (by rw [ints_len]; omega), Sl.mk _ _ _⟩
theorem Elt.fzs {H : List Blk} {W : List Nat} {L : Nat} : ∀ {xs : List AV} {us : List (List Int)}, All2 (Elt H L) xs us → (∀ u ∈ us, u.length ≤ 40) → ∀ k, xs.length + 43 < k → ∃ vs, Go.AM.fzs { h := H, wr := W } L k xs = some (rs vs) ∧ SlT vs us
  | [], _, h, _, k, hk => by
    cases h
    obtain ⟨k, rfl⟩ : ∃ j, k = j + 1 := ⟨k - 1, by omega⟩
    exact ⟨[], rfl, .nil⟩
  | x :: xs, _, h, hu, k, hk => by
    cases h with
    | cons h t =>
      rename_i u us
      obtain ⟨k, rfl⟩ : ∃ j, k = j + 1 := ⟨k - 1, by omega⟩
      obtain ⟨v, h1, h2⟩ := h.fz (W := W) (k := k) (by have := hu u (by simp); simp at hk; omega)
      obtain ⟨vs, h3, h4⟩ := Elt.fzs (W := W) t (fun u hu' => hu u (by simp [hu'])) k (by simp at hk; omega)
      exact ⟨v :: vs, by rw [Go.AM.fzs, h1, h3]; rfl, .cons h2 h4⟩
theorem GA.fz {H : List Blk} {W : List Nat} {L : Nat} {T : TypeId} {xs : List AV} {us : List (List Int)} {pv : AV} (h : GA H L T xs pv) (hx : All2 (Elt H L) xs us) (hu : ∀ u ∈ us, u.length ≤ 40) (hne : us ≠ []) {k : Nat} (hk : xs.length + 44 < k) :
    ∃ vs, Go.AM.fz { h := H, wr := W } L k pv = some (.r (.sl vs us.length none)) ∧ SlT vs us := by
  obtain ⟨k, rfl⟩ : ∃ j, k = j + 1 := ⟨k - 1, by omega⟩
  have hl := hx.length
  cases h with
  | nil e =>
    subst e
    cases hx
    exact absurd rfl hne
  | osl B g h1 h2 h3 =>
    obtain ⟨vs, h4, h5⟩ := Elt.fzs (W := W) hx hu k (by omega)
    refine ⟨vs, ?_, h5⟩
    rw [Go.AM.fz]
    simp only [rcells, h2, if_true]
    rw [if_neg (by omega), if_pos (by omega), List.drop_zero, List.take_of_length_le (by omega), h4]
    simp only [allR_rs]
    rw [hl]
end Go.AM.T
/- What the functions compute (own work). -/
namespace Go.AM.T
open Go Go.AM
attribute [local simp] so_mov so_pick so_alloc so_box so_build so_slit so_load so_store so_nilc so_bin so_beq so_eqs so_eqn so_eqnl so_not so_conv so_s2b so_mkfn so_slcA so_padd so_fld so_idxA so_idxV so_idxT so_look so_mupd so_mkmap so_mksl so_ext so_app so_lenT so_lenM so_min so_max so_cpy so_clr so_mkif so_tass so_lenS so_idxS so_slc
attribute [local simp] dn_skip dn_label dn_ret dn_exit dn_scope dn_keep dn_reg dn_draw0 noSlots denE denEI stepE  sd_mov sd_pick sd_build sd_load sd_store sd_nilc sd_bin sd_beq sd_eqs sd_eqn sd_eqnl sd_not sd_conv sd_s2b sd_mkfn sd_slc sd_slcA sd_padd sd_fld sd_idxS sd_idxA sd_idxV sd_idxT sd_look sd_mupd sd_ext sd_app sd_lenS sd_lenT sd_lenM sd_min sd_max sd_mkif sd_tass sd_call sd_slit dn_seq dn_cond dn_block dn_loop kn_call denIs denI denOp wants ev eget putD binL enumFrom AV.bool? AV.int? ekeep evs evp runV fin runDefs resAll resOf tupOf unit AV.cells okV ok1 Value.oneCell' fill setN rcells rs_nil rs_cons load_own load_cons mkAgg_rs storeN jmpOut
attribute [local simp] dvL dv1t dvAt mkAgg2 dv0 dv1 dv2 dv3 dv4 dv5 dv6 dv7 dv8 dv9 dv10 dvA dvN dvAll C_fz fzr
/-- A list of numbers, as a heap has it. -/
def Arr (k : IntKind) (H : List Blk) (v : AV) (l : List Int) : Prop := Els v l.length 1 1 false H (fun i => .r (.lit (.int k (l.getD i 0))))
theorem Arr.ofSl {k : IntKind} {H : List Blk} {l : List Int} {v : RV} (h : Sl (ints k l) l.length v) : Arr k H (.r v) l :=
  ⟨h.len, fun i hi => ⟨_, h.at hi, fun wr => by rw [Nat.mul_one, load_ints hi, getD_get hi]⟩⟩
theorem Arr.osl {k : IntKind} {H : List Blk} {l : List Int} {B g : Nat} {T : TypeId} {cap : Option Nat} (hB : H[B]? = some (.cells (rs (ints k l)) T g)) : Arr k H (.osl B g 0 l.length 1 cap) l := by
  refine ⟨rfl, fun i hi => ⟨.own B g (0 + i * 1), ?_, fun wr => ?_⟩⟩
  · simp only [atOf]
    rw [if_pos ⟨by omega, by omega, trivial⟩]
    simp
  · rw [load_own]
    simp only [rcells, hB, if_true]
    have hl : (rs (ints k l)).length = l.length := by rw [rs_len, ints_len]
    rw [if_pos (by omega)]
    have : List.take 1 (List.drop (0 + i * 1) (rs (ints k l))) = [.r (.lit (.int k (l.getD i 0)))] := by
      rw [List.take_one, List.head?_drop, rs_get]
      simp [ints, hi]
    rw [this]; rfl
theorem Arr.ofGS {k : IntKind} {H : List Blk} {L : Nat} {T : TypeId} {l : List Int} {v : AV} (h : GS H L T 1 (ints k l) l.length v) : Arr k H v l := by
  cases h with
  | nil e1 e2 => exact Arr.ofSl (by rw [List.length_eq_zero_iff] at e1; subst e1; exact Sl.nil)
  | osl B g h1 h2 h3 h4 => exact Arr.osl h2
theorem IndexU_spec {l : List Int} {v : AV} {m : Mem} (hl : Arr .u8 m.h v l) (hb : l.length < 2 ^ 63) (x : Int) : CallR C (fnv fn_slices_Index_Suint8_uint8) [v, u8 x] m (.ret (i64 (idxOf l.length (fun i => l.getD i 0 == x))) m) := by
  have key := Loop.run (C := C) (c := l_slices_Index_Suint8_uint8_0) (live := [0, 1, 7, 8]) (fun k s => ∃ i : Nat, i + k = l.length ∧ At1 [0, 1, 7, 8] [(0, v), (1, u8 x), (7, i64 l.length), (8, i64 i)] { h := m.h } s ∧ ∀ j, j < i → (l.getD j 0 == x) = false)
    (fun o s => s.m = { h := m.h } ∧ s.defs = [] ∧ ((o = .ret ∧ ∃ i : Nat, eget s.env 4 = i64 i ∧ (List.range l.length).find? (fun i => l.getD i 0 == x) = some i) ∨ (o = .exit 0 ∧ (List.range l.length).find? (fun i => l.getD i 0 == x) = none))) (by
    rintro k s ⟨i, hik, ⟨he, hm, hd, hr⟩, hx⟩
    rw [he]
    cases k with
    | zero =>
      have e1 : ((i : Int) < (l.length : Int)) = False := eq_false (by omega)
      exact ⟨.exit 0, _, .of fun K => by simp [l_slices_Index_Suint8_uint8_0, e1]; rfl, .inr ⟨by simp, by simp [hm], by simp [hd], .inr ⟨rfl, find_none_of fun j hj => hx j (by omega)⟩⟩⟩
    | succ k =>
      have hi : i < l.length := by omega
      have e1 : ((i : Int) < (l.length : Int)) = True := eq_true (by omega)
      have w1 : IntKind.wrap .i64 ((i : Int) + 1) = i + 1 := by rw [w64] <;> omega
      obtain ⟨a, ha, hld⟩ := hl.el i hi
      have hld := hld []
      rw [getD_get hi] at hld
      by_cases hq : x = l[i]
      · have hq' : (x == l[i]) = true := by simpa using hq
        exact ⟨.ret, _, .of fun K => by simp [l_slices_Index_Suint8_uint8_0, e1, ha, hm, hld, hq']; rfl, .inr ⟨by simp, by simp [hm], by simp [hd], .inl ⟨rfl, i, by simp, find_some_of hi hx (by rw [getD_get hi]; simp [hq])⟩⟩⟩
      · have hq' : (x == l[i]) = false := by simpa using hq
        refine ⟨.norm, _, .of fun K => by simp [l_slices_Index_Suint8_uint8_0, e1, ha, hm, hld, hq', w1]; rfl, .inl ⟨rfl, k, by omega, i + 1, by omega, ⟨by simp, by simp [hm], by simp [hd], by simp [hr]⟩, fun j hj => ?_⟩⟩
        by_cases e : j = i
        · subst e; rw [getD_get hi]; simpa using fun h => hq h.symm
        · exact hx j (by omega))
  obtain ⟨o, s, h1, h2, h3, h4, h5⟩ := key l.length { env := [(0, v), (1, u8 x), (7, i64 l.length), (8, i64 0)], m := { h := m.h } } ⟨0, by simp, ⟨by simp, rfl, rfl, rfl⟩, by simp⟩
  obtain ⟨c0, h1⟩ := h1.get
  unfold idxOf
  rcases h5 with ⟨rfl, i, h5, h6⟩ | ⟨rfl, h6⟩ <;> rw [h6]
  · exact CallR.eval0 rfl rfl prog_slices_Index_Suint8_uint8 rfl ⟨c0, fun k hk => by simp [a_slices_Index_Suint8_uint8, hl.len, h1 k hk, h4, h5, h3]⟩
  · exact CallR.eval0 rfl rfl prog_slices_Index_Suint8_uint8 rfl ⟨c0, fun k hk => by simp [a_slices_Index_Suint8_uint8, hl.len, h1 k hk, h4, h3]⟩
theorem ContainsU_spec {l : List Int} {v : AV} {m : Mem} (hl : Arr .u8 m.h v l) (hb : l.length < 2 ^ 63) (x : Int) : CallR C (fnv fn_slices_Contains_Suint8_uint8) [v, u8 x] m (.ret (bo (l.contains x)) m) := by
  obtain ⟨c1, k1⟩ := IndexU_spec (m := { h := m.h }) hl hb x
  rw [← any_contains]
  rcases idxOf_any l.length (fun i => l.getD i 0 == x) with ⟨h1, h2⟩ | ⟨h1, h2⟩
  · rw [h2]
    have e1 := eq_true h1
    exact CallR.eval0 rfl rfl prog_slices_Contains_Suint8_uint8 rfl ⟨c1, fun k hk => by
      have := k1 k hk
      generalize idxOf l.length (fun i => l.getD i 0 == x) = z at this e1
      simp [a_slices_Contains_Suint8_uint8, this, e1]⟩
  · rw [h2]
    have e1 : (0 ≤ idxOf l.length (fun i => l.getD i 0 == x)) = False := eq_false (by omega)
    exact CallR.eval0 rfl rfl prog_slices_Contains_Suint8_uint8 rfl ⟨c1, fun k hk => by
      have := k1 k hk
      generalize idxOf l.length (fun i => l.getD i 0 == x) = z at this e1
      simp [a_slices_Contains_Suint8_uint8, this, e1]⟩
theorem isNaNU_spec (x : Int) (m : Mem) : CallR C (fnv fn_cmp_isNaN_uint8) [u8 x] m (.ret (bo false) m) :=
  CallR.eval0 rfl rfl prog_cmp_isNaN_uint8 rfl ⟨0, fun k _ => by simp [a_cmp_isNaN_uint8]⟩
theorem LessU_spec (x y : Int) (m : Mem) : CallR C (fnv fn_cmp_Less_uint8) [u8 x, u8 y] m (.ret (bo (decide (x < y))) m) := by
  obtain ⟨c1, k1⟩ := isNaNU_spec x { h := m.h }
  exact CallR.eval0 rfl rfl prog_cmp_Less_uint8 rfl ⟨c1, fun k hk => by simp [a_cmp_Less_uint8, k1 k hk]⟩
end Go.AM.T
/- What the functions compute (own work). -/
namespace Go.AM.T
open Go Go.AM
attribute [local simp] so_mov so_pick so_alloc so_box so_build so_slit so_load so_store so_nilc so_bin so_beq so_eqs so_eqn so_eqnl so_not so_conv so_s2b so_mkfn so_slcA so_padd so_fld so_idxA so_idxV so_idxT so_look so_mupd so_mkmap so_mksl so_ext so_app so_lenT so_lenM so_min so_max so_cpy so_clr so_mkif so_tass so_lenS so_idxS so_slc
attribute [local simp] dn_skip dn_label dn_ret dn_exit dn_scope dn_keep dn_reg dn_draw0 noSlots denE denEI stepE  sd_mov sd_pick sd_build sd_load sd_store sd_nilc sd_bin sd_beq sd_eqs sd_eqn sd_eqnl sd_not sd_conv sd_s2b sd_mkfn sd_slc sd_slcA sd_padd sd_fld sd_idxS sd_idxA sd_idxV sd_idxT sd_look sd_mupd sd_ext sd_app sd_lenS sd_lenT sd_lenM sd_min sd_max sd_mkif sd_tass sd_call sd_slit dn_seq dn_cond dn_block dn_loop kn_call denIs denI denOp wants ev eget putD binL enumFrom AV.bool? AV.int? ekeep evs evp runV fin runDefs resAll resOf tupOf unit AV.cells okV ok1 Value.oneCell' fill setN rcells rs_nil rs_cons load_own load_cons mkAgg_rs storeN jmpOut
attribute [local simp] dvL dv1t dvAt mkAgg2 dv0 dv1 dv2 dv3 dv4 dv5 dv6 dv7 dv8 dv9 dv10 dvA dvN dvAll C_fz fzr
/-- A number goes down to its place; lists so sorted. -/
def bub : Nat → List Int → List Int
  | 0, l => l
  | j + 1, l => if l.getD (j + 1) 0 < l.getD j 0 then bub j ((l.set (j + 1) (l.getD j 0)).set j (l.getD (j + 1) 0)) else l
theorem bub_len : ∀ (j : Nat) (l : List Int), (bub j l).length = l.length
  | 0, l => rfl
  | j + 1, l => by
    unfold bub
    split
    · rw [bub_len j]; simp
    · rfl
def insF : Nat → Nat → List Int → List Int
  | 0, _, l => l
  | k + 1, i, l => insF k (i + 1) (bub i l)
theorem insF_len : ∀ (k i : Nat) (l : List Int), (insF k i l).length = l.length
  | 0, _, l => rfl
  | k + 1, i, l => by unfold insF; rw [insF_len, bub_len]
def insL (l : List Int) : List Int := insF (l.length - 1) 1 l
theorem take_one_ints {k : IntKind} {l : List Int} {j : Nat} (hj : j < l.length) : List.take 1 (List.drop j (rs (ints k l))) = [.r (.lit (.int k (l.getD j 0)))] := by
  rw [List.take_one, List.head?_drop, rs_get]
  simp [ints, hj]
theorem put_ints {k : IntKind} {l : List Int} {j : Nat} (hj : j < l.length) (v : Int) : List.take j (rs (ints k l)) ++ .r (.lit (.int k v)) :: List.drop (j + 1) (rs (ints k l)) = rs (ints k (l.set j v)) := by
  have := setN_one (rs (ints k l)) (o := j) (by rw [rs_len, ints_len]; omega) (.r (.lit (.int k v)))
  rw [rs_set, ints_set] at this
  simpa [setN] using this
section
variable {B g n i : Nat} {T : TypeId}
theorem ins_inner (hi : i < n) (hn : n < 2 ^ 62) (H : List Blk) (hBl : B < H.length) :
    ∀ (j : Nat) (l : List Int) (s : St), j ≤ i → l.length = n → ekeep [0, 1, 2, 6, 7] s.env = [(0, .osl B g 0 n 1 none), (1, i64 0), (2, i64 n), (6, i64 i), (7, i64 j)] → s.m.h = H.set B (.cells (rs (ints .u8 l)) T g) → (∀ x ∈ s.m.wr, x = B) → s.defs = [] →
      ∃ s', Loop C [0, 1, 2, 6, 7] l_slices_insertionSortOrdered_uint8_0 s (.exit 2) s' ∧ s'.m.h = H.set B (.cells (rs (ints .u8 (bub j l))) T g) ∧ (∀ x ∈ s'.m.wr, x = B) ∧ s'.defs = [] ∧ ekeep [0, 1, 2, 6] s'.env = [(0, .osl B g 0 n 1 none), (1, i64 0), (2, i64 n), (6, i64 i)] := by
  intro j
  induction j with
  | zero =>
    intro l s hj hl he hm hw hd
    refine ⟨_, .stop (.of fun K => by rw [he]; simp [l_slices_insertionSortOrdered_uint8_0]; rfl) (by simp), by simp [hm, bub], by simpa using hw, by simp [hd], by simp⟩
  | succ j ih =>
    intro l s hj hl he hm hw hd
    obtain ⟨M, hM⟩ : ∃ M, M = s.m := ⟨_, rfl⟩
    obtain ⟨h, w⟩ := M
    rw [← hM] at hm hw
    simp only at hm hw
    have e0 : ((0 : Int) < (j : Int) + 1) = True := eq_true (by omega)
    have w1 : IntKind.wrap .i64 ((j : Int) + 1 - 1) = j := by rw [w64] <;> omega
    have w2 : IntKind.wrap .i64 (j : Int) = j := by rw [w64] <;> omega
    have hS : ∀ x, (H.set B x)[B]? = some x := fun x => List.getElem?_set_self hBl
    have hA : ∀ k : Nat, k < n → atOf 1 (.osl B g 0 n 1 none) (k : Int) = some (.own B g k) := fun k hk => by
      simp only [atOf]; rw [if_pos ⟨by omega, by omega, trivial⟩]; simp
    have hA0 := hA j (by omega)
    have hA1 := hA (j + 1) (by omega)
    rw [Int.natCast_add, Int.natCast_one] at hA1
    have hlen : (rs (ints .u8 l)).length = n := by rw [rs_len, ints_len, hl]
    have t0 := take_one_ints (k := .u8) (l := l) (j := j) (by omega)
    have t1 := take_one_ints (k := .u8) (l := l) (j := j + 1) (by omega)
    have o0 : (j + 1 ≤ n) = True := eq_true (by omega)
    have o1 : (j + 1 + 1 ≤ n) = True := eq_true (by omega)
    obtain ⟨x, hx⟩ : ∃ x, x = l.getD (j + 1) 0 := ⟨_, rfl⟩
    obtain ⟨y, hy⟩ : ∃ y, y = l.getD j 0 := ⟨_, rfl⟩
    rw [← hy] at t0
    rw [← hx] at t1
    obtain ⟨c1, k1⟩ := LessU_spec x y { h := H.set B (.cells (rs (ints .u8 l)) T g) }
    by_cases hlt : x < y
    · have e1 : decide (x < y) = true := decide_eq_true hlt
      rw [e1] at k1
      have p1 := put_ints (k := .u8) (l := l) (j := j + 1) (by omega) y
      have p0 := put_ints (k := .u8) (l := l.set (j + 1) y) (j := j) (by simp; omega) x
      have hlen1 : (rs (ints .u8 (l.set (j + 1) y))).length = n := by rw [rs_len, ints_len, List.length_set, hl]
      obtain ⟨I, hI⟩ : ∃ I, I = ints .u8 l := ⟨_, rfl⟩
      obtain ⟨I1, hI1⟩ : ∃ I, I = ints .u8 (l.set (j + 1) y) := ⟨_, rfl⟩
      obtain ⟨I2, hI2⟩ : ∃ I, I = ints .u8 ((l.set (j + 1) y).set j x) := ⟨_, rfl⟩
      rw [← hI] at hm hlen t0 t1 k1 p1
      rw [← hI1] at p1 p0 hlen1
      rw [← hI2] at p0
      obtain ⟨s', h1, h2, h3, h4, h5⟩ := ih ((l.set (j + 1) y).set j x) { s with env := [(0, .osl B g 0 n 1 none), (1, i64 0), (2, i64 n), (6, i64 i), (7, i64 j)], m := { h := H.set B (.cells (rs I2) T g), wr := B :: B :: w } } (by omega) (by simp [hl]) (by simp) (by rw [hI2]) (by
        intro z hz
        simp only [List.mem_cons] at hz
        rcases hz with rfl | rfl | hz
        · rfl
        · rfl
        · exact hw z hz) hd
      have hb : bub (j + 1) l = bub j ((l.set (j + 1) y).set j x) := by
        conv => lhs; unfold bub
        rw [← hx, ← hy, if_pos hlt]
      refine ⟨s', .more (.ofN ⟨c1, fun k hk => ?_⟩) h1, by rw [hb]; exact h2, h3, h4, h5⟩
      rw [he]
      simp [l_slices_insertionSortOrdered_uint8_0, ← hM, hm, e0, w1, w2, hA0, hA1, hS, hlen, hlen1, o0, o1, t0, t1, k1 k hk, p1, p0]
    · have e1 : decide (x < y) = false := decide_eq_false hlt
      rw [e1] at k1
      have hb : bub (j + 1) l = l := by unfold bub; rw [← hx, ← hy, if_neg hlt]
      obtain ⟨I, hI⟩ : ∃ I, I = ints .u8 l := ⟨_, rfl⟩
      rw [hb]
      rw [← hI] at hm hlen t0 t1 k1 ⊢
      refine ⟨_, .stop (.ofN ⟨c1, fun k hk => by rw [he]; simp [l_slices_insertionSortOrdered_uint8_0, ← hM, hm, e0, w1, w2, hA0, hA1, hS, hlen, o0, o1, t0, t1, k1 k hk]; rfl⟩) (by simp), by simp, by simpa using hw, by simp [hd], by simp⟩
theorem ins_outer (hn : n < 2 ^ 62) (H : List Blk) (hBl : B < H.length) : ∀ (k i : Nat) (l : List Int) (s : St), (k = 0 → n ≤ i) → (0 < k → i + k = n) → l.length = n → ekeep [0, 1, 2, 6] s.env = [(0, .osl B g 0 n 1 none), (1, i64 0), (2, i64 n), (6, i64 i)] → s.m.h = H.set B (.cells (rs (ints .u8 l)) T g) → (∀ x ∈ s.m.wr, x = B) → s.defs = [] →
      ∃ s', Loop C [0, 1, 2, 6] l_slices_insertionSortOrdered_uint8_1 s (.exit 0) s' ∧ s'.m.h = H.set B (.cells (rs (ints .u8 (insF k i l))) T g) ∧ (∀ x ∈ s'.m.wr, x = B) ∧ s'.defs = [] := by
  intro k
  induction k with
  | zero =>
    intro i l s h0 _ hl he hm hw hd
    have e0 : ((i : Int) < (n : Int)) = False := eq_false (by have := h0 rfl; omega)
    exact ⟨_, .stop (.of fun K => by rw [he]; simp [l_slices_insertionSortOrdered_uint8_1, e0]; rfl) (by simp), by simp [hm, insF], by simpa using hw, by simp [hd]⟩
  | succ k ih =>
    intro i l s _ h1 hl he hm hw hd
    have hin := h1 (by omega)
    have e0 : ((i : Int) < (n : Int)) = True := eq_true (by omega)
    have w1 : IntKind.wrap .i64 ((i : Int) + 1) = i + 1 := by rw [w64] <;> omega
    obtain ⟨s2, l2, m2, w2, d2, e2⟩ := ins_inner (g := g) (T := T) (i := i) (n := n) (B := B) (by omega) hn H hBl i l { s with env := [(0, .osl B g 0 n 1 none), (1, i64 0), (2, i64 n), (6, i64 i), (7, i64 i)] } (Nat.le_refl _) hl (by simp) hm hw hd
    obtain ⟨c2, k2⟩ := l2.get
    have e2' : eget s2.env 0 = .osl B g 0 n 1 none ∧ eget s2.env 1 = i64 0 ∧ eget s2.env 2 = i64 n ∧ eget s2.env 6 = i64 i := by simpa [ekeep] using e2
    obtain ⟨f0, f1, f2, f6⟩ := e2'
    obtain ⟨s3, l3, m3, w3, d3⟩ := ih (i + 1) (bub i l) { s2 with env := [(0, .osl B g 0 n 1 none), (1, i64 0), (2, i64 n), (6, i64 (i + 1 : Nat))] } (by omega) (by omega) (by rw [bub_len]; exact hl) (by simp) m2 w2 d2
    refine ⟨s3, .more (.ofN ⟨c2, fun q hq => ?_⟩) l3, m3, w3, d3⟩
    rw [he]
    have k2 := k2 q hq
    simp [l_slices_insertionSortOrdered_uint8_1, e0, k2, f0, f1, f2, f6, w1]
end
end Go.AM.T
/- What the functions compute (own work). -/
namespace Go.AM.T
open Go Go.AM
attribute [local simp] so_mov so_pick so_alloc so_box so_build so_slit so_load so_store so_nilc so_bin so_beq so_eqs so_eqn so_eqnl so_not so_conv so_s2b so_mkfn so_slcA so_padd so_fld so_idxA so_idxV so_idxT so_look so_mupd so_mkmap so_mksl so_ext so_app so_lenT so_lenM so_min so_max so_cpy so_clr so_mkif so_tass so_lenS so_idxS so_slc
attribute [local simp] dn_skip dn_label dn_ret dn_exit dn_scope dn_keep dn_reg dn_draw0 noSlots denE denEI stepE  sd_mov sd_pick sd_build sd_load sd_store sd_nilc sd_bin sd_beq sd_eqs sd_eqn sd_eqnl sd_not sd_conv sd_s2b sd_mkfn sd_slc sd_slcA sd_padd sd_fld sd_idxS sd_idxA sd_idxV sd_idxT sd_look sd_mupd sd_ext sd_app sd_lenS sd_lenT sd_lenM sd_min sd_max sd_mkif sd_tass sd_call sd_slit dn_seq dn_cond dn_block dn_loop kn_call denIs denI denOp wants ev eget putD binL enumFrom AV.bool? AV.int? ekeep evs evp runV fin runDefs resAll resOf tupOf unit AV.cells okV ok1 Value.oneCell' fill setN rcells rs_nil rs_cons load_own load_cons mkAgg_rs storeN jmpOut
attribute [local simp] dvL dv1t dvAt mkAgg2 dv0 dv1 dv2 dv3 dv4 dv5 dv6 dv7 dv8 dv9 dv10 dvA dvN dvAll C_fz fzr
theorem lt0s_rs' (n : Nat) : ∀ l : List RV, lt0s n (rs l) = true
  | [] => rfl
  | x :: l => by rw [rs_cons]; simp only [lt0s, lt0, Bool.true_and]; exact lt0s_rs' n l
/-- What a call that writes one block of numbers leaves. -/
theorem settle_one {H : List Blk} {W W1 : List Nat} {B g : Nat} {T : TypeId} {cs : List RV} {v v' : AV} (hB : B < H.length) (hw : ∀ x ∈ W1, x = B) (hv : ∀ m, fz m H.length C.fz v = some v') :
    ∃ W', Go.AM.settle C.fz false { h := H, wr := W } v { h := H.set B (.cells (rs cs) T g), wr := W1 } = (v', { h := H.set B (.cells (rs cs) T g), wr := W' }) ∧ ∀ x ∈ W', x ∈ W ∨ x = B := by
  refine ⟨oldWr H.length W1 ++ W, ?_, fun x hx => ?_⟩
  · rw [settle_w (hv _)]
    · simp [List.take_of_length_le]
    · intro i hi _ b hb
      have := hw i hi
      subst this
      simp only at hb
      rw [List.getElem?_set_self hB] at hb
      cases hb
      exact lt0s_rs' _ _
  · rcases List.mem_append.1 hx with hx | hx
    · unfold oldWr at hx
      exact .inr (hw x (List.mem_filter.1 hx).1)
    · exact .inl hx
theorem fz_unit (m : Mem) (n : Nat) : fz m n C.fz (.tup []) = some (.tup []) := by rw [C_fz]; rfl
theorem set_same {α : Type} {H : List α} {B : Nat} {b : α} (h : H[B]? = some b) : H.set B b = H := by
  obtain ⟨h1, h2⟩ := List.getElem?_eq_some_iff.1 h
  rw [← h2, List.set_getElem_self]
section
variable {B g : Nat} {T : TypeId} {l : List Int}
theorem insSort_spec (hl : 1 ≤ l.length ∧ l.length < 2 ^ 62) {H : List Blk} (hB : H[B]? = some (.cells (rs (ints .u8 l)) T g)) (W : List Nat) :
    ∃ W', CallR C (fnv fn_slices_insertionSortOrdered_uint8) [.osl B g 0 l.length 1 none, i64 0, i64 l.length] { h := H, wr := W } (.ret (.tup []) { h := H.set B (.cells (rs (ints .u8 (insL l))) T g), wr := W' }) ∧ ∀ x ∈ W', x ∈ W ∨ x = B := by
  have hBl := getElem?_lt hB
  obtain ⟨s, l1, m1, w1, d1⟩ := ins_outer (g := g) (T := T) (n := l.length) (by omega) H hBl (l.length - 1) 1 l { env := [(0, .osl B g 0 l.length 1 none), (1, i64 0), (2, i64 l.length), (6, i64 1)], m := { h := H } } (by omega) (by omega) rfl (by simp) (set_same hB).symm (by simp) rfl
  rw [show insF (l.length - 1) 1 l = insL l from rfl] at m1
  obtain ⟨c1, k1⟩ := l1.get
  obtain ⟨W', hs, hw⟩ := settle_one (W := W) (cs := ints .u8 (insL l)) (T := T) (g := g) hBl w1 (fun m => fz_unit m H.length)
  refine ⟨W', CallR.fnR (CallR.evalW (m1 := { h := H.set B (.cells (rs (ints .u8 (insL l))) T g), wr := s.m.wr }) (v := .tup []) rfl prog_slices_insertionSortOrdered_uint8 rfl ⟨c1, fun k hk => ?_⟩ hs), hw⟩
  have : s.m = { h := H.set B (.cells (rs (ints .u8 (insL l))) T g), wr := s.m.wr } := by rw [← m1]
  simp [runK, finK, a_slices_insertionSortOrdered_uint8, wk1, k1 k hk, d1]
  rw [this]
theorem pdqSort_spec (hl : 1 ≤ l.length ∧ l.length ≤ 12) {H : List Blk} (hB : H[B]? = some (.cells (rs (ints .u8 l)) T g)) (W : List Nat) (lim : Int) :
    ∃ W', CallR C (fnv fn_slices_pdqsortOrdered_uint8) [.osl B g 0 l.length 1 none, i64 0, i64 l.length, i64 lim] { h := H, wr := W } (.ret (.tup []) { h := H.set B (.cells (rs (ints .u8 (insL l))) T g), wr := W' }) ∧ ∀ x ∈ W', x ∈ W ∨ x = B := by
  have hBl := getElem?_lt hB
  obtain ⟨W1, ⟨c1, k1⟩, hw1⟩ := insSort_spec (T := T) (g := g) (l := l) ⟨hl.1, by omega⟩ hB []
  obtain ⟨W', hs, hw⟩ := settle_one (W := W) (cs := ints .u8 (insL l)) (T := T) (g := g) hBl (fun x hx => by simpa using hw1 x hx) (fun m => fz_unit m H.length)
  have w0 : IntKind.wrap .i64 (l.length : Int) = l.length := by rw [w64] <;> omega
  have e0 : ((l.length : Int) ≤ 12) = True := eq_true (by omega)
  refine ⟨W', CallR.fnR (CallR.evalW (m1 := { h := H.set B (.cells (rs (ints .u8 (insL l))) T g), wr := W1 }) (v := .tup []) rfl prog_slices_pdqsortOrdered_uint8 rfl ⟨c1 + 2, fun k hk => ?_⟩ hs), hw⟩
  obtain ⟨j, rfl⟩ : ∃ j, k = j + 1 := ⟨k - 1, by omega⟩
  simp [runK, finK, a_slices_pdqsortOrdered_uint8, goLoop, kn_iter, iterN, l_slices_pdqsortOrdered_uint8_0, w0, e0, k1 (j + 1) (by omega)]
theorem Len_spec (n : Nat) (h : n ≤ 3) (m : Mem) : ∃ r : Int, CallR C (fnv fn_math_bits_Len) [.r (.lit (.int .u64 n))] m (.ret (i64 r) m) := by
  have key : ∀ r : Int, (∀ H : List Blk, runV (Kn C 5) C.fz a_math_bits_Len64 [.r (.lit (.int .u64 n))] H = some (i64 r, { h := H, wr := [] })) → CallR C (fnv fn_math_bits_Len) [.r (.lit (.int .u64 n))] m (.ret (i64 r) m) := by
    intro r hr
    obtain ⟨c1, k1⟩ : CallR C (fnv fn_math_bits_Len64) [.r (.lit (.int .u64 n))] { h := m.h } (.ret (i64 r) { h := m.h }) := CallR.eval1 (n := 5) (m1 := { h := m.h, wr := [] }) rfl rfl prog_math_bits_Len64 rfl (hr m.h) (by simp) (by simp)
    exact CallR.eval0 rfl rfl prog_math_bits_Len rfl ⟨c1, fun k hk => by simp [a_math_bits_Len, k1 k hk]⟩
  have : n = 0 ∨ n = 1 ∨ n = 2 ∨ n = 3 := by omega
  rcases this with rfl | rfl | rfl | rfl
  · exact ⟨0, key 0 fun H => by kernel_rfl⟩
  · exact ⟨1, key 1 fun H => by kernel_rfl⟩
  · exact ⟨2, key 2 fun H => by kernel_rfl⟩
  · exact ⟨2, key 2 fun H => by kernel_rfl⟩
theorem Sort_spec (hl : 1 ≤ l.length ∧ l.length ≤ 3) {H : List Blk} (hB : H[B]? = some (.cells (rs (ints .u8 l)) T g)) (W : List Nat) :
    ∃ W', CallR C (fnv fn_slices_Sort_Suint8_uint8) [.osl B g 0 l.length 1 none] { h := H, wr := W } (.ret (.tup []) { h := H.set B (.cells (rs (ints .u8 (insL l))) T g), wr := W' }) ∧ ∀ x ∈ W', x ∈ W ∨ x = B := by
  have hBl := getElem?_lt hB
  obtain ⟨r, c2, k2⟩ := Len_spec l.length hl.2 { h := H }
  obtain ⟨W1, ⟨c1, k1⟩, hw1⟩ := pdqSort_spec (T := T) (g := g) (l := l) ⟨hl.1, by omega⟩ hB [] r
  obtain ⟨W', hs, hw⟩ := settle_one (W := W) (cs := ints .u8 (insL l)) (T := T) (g := g) hBl (fun x hx => by simpa using hw1 x hx) (fun m => fz_unit m H.length)
  have w0 : IntKind.wrap .u64 (l.length : Int) = l.length := by
    unfold IntKind.wrap; simp [IntKind.bits, IntKind.signed]; omega
  refine ⟨W', CallR.fnR (CallR.evalW (m1 := { h := H.set B (.cells (rs (ints .u8 (insL l))) T g), wr := W1 }) (v := .tup []) rfl prog_slices_Sort_Suint8_uint8 rfl ⟨c1 + c2, fun k hk => ?_⟩ hs), hw⟩
  simp [runK, finK, a_slices_Sort_Suint8_uint8, lenOf, w0, k2 k (by omega), k1 k (by omega)]
end
end Go.AM.T
/- What the functions compute (own work). -/
namespace Go.AM.T
open Go Go.AM
attribute [local simp] so_mov so_pick so_alloc so_box so_build so_slit so_load so_store so_nilc so_bin so_beq so_eqs so_eqn so_eqnl so_not so_conv so_s2b so_mkfn so_slcA so_padd so_fld so_idxA so_idxV so_idxT so_look so_mupd so_mkmap so_mksl so_ext so_app so_lenT so_lenM so_min so_max so_cpy so_clr so_mkif so_tass so_lenS so_idxS so_slc
attribute [local simp] dn_skip dn_label dn_ret dn_exit dn_scope dn_keep dn_reg dn_draw0 noSlots denE denEI stepE  sd_mov sd_pick sd_build sd_load sd_store sd_nilc sd_bin sd_beq sd_eqs sd_eqn sd_eqnl sd_not sd_conv sd_s2b sd_mkfn sd_slc sd_slcA sd_padd sd_fld sd_idxS sd_idxA sd_idxV sd_idxT sd_look sd_mupd sd_ext sd_app sd_lenS sd_lenT sd_lenM sd_min sd_max sd_mkif sd_tass sd_call sd_slit dn_seq dn_cond dn_block dn_loop kn_call denIs denI denOp wants ev eget putD binL enumFrom AV.bool? AV.int? ekeep evs evp runV fin runDefs resAll resOf tupOf unit AV.cells okV ok1 Value.oneCell' fill setN rcells rs_nil rs_cons load_own load_cons mkAgg_rs storeN jmpOut
attribute [local simp] dvL dv1t dvAt mkAgg2 dv0 dv1 dv2 dv3 dv4 dv5 dv6 dv7 dv8 dv9 dv10 dvA dvN dvAll C_fz fzr
theorem set_mid {α : Type} (h r : List α) (k : Nat) (x : α) : (h ++ r).set (h.length + k) x = h ++ r.set k x := by
  rw [List.set_append_right _ _ (by omega), Nat.add_sub_cancel_left]
theorem get_midk {α : Type} (h r : List α) (k : Nat) : (h ++ r)[h.length + k]? = r[k]? := by
  rw [List.getElem?_append_right (by omega), Nat.add_sub_cancel_left]
/-- The outcomes so far, and one truth more. -/
def alStep (d : Div) (s t : List Int) : List Int × Bool := if s.contains (outcomeI d (numsL d t)) = true then (s, true) else (s ++ [outcomeI d (numsL d t)], true)
theorem alStep_2 (d : Div) (s t : List Int) : (alStep d s t).2 = true := by unfold alStep; split <;> rfl
theorem alStep_len (d : Div) (s t : List Int) : (alStep d s t).1.length ≤ s.length + 1 := by unfold alStep; split <;> simp
def lpA (d : Div) (L : Nat) (D R : List RV) : Lp (List Int) where
  E := [(2, .r .nil), (3, i64 0), (4, .own (L + 1) 0 0), (6, .own (L + 2) 0 0), (18, .r (.fn fn_tally_looked_truths_1 [] [.ptr R]))]
  pt := 19
  tt := 7
  bd := b_tally_Allowed_0
  k := 3
  P := fun _ v => [.cells (rs D) ty_tally_Division 0, .cells (rs R) ty_tally_looked 0, .cells [v] ty_Suint8 0]
  T := ty_uint8
  sz := 1
  cs := fun s => ints .u8 s
  nn := List.length
  jb := 2
  Tb := ty_Suint8
  alive := fun _ => true
  rank := List.length
  N := 10000
  step := alStep d
theorem nums_le {d : Div} (hr : rightB d = true) (t : List Int) : (0 ≤ (numsL d t).1 ∧ (numsL d t).1 ≤ 1000) ∧ (0 ≤ (numsL d t).2 ∧ (numsL d t).2 ≤ 1000) := by
  have hn := right_n hr
  obtain ⟨_, hp, _⟩ := right_len hr
  have h1 := numsM_le d t d.n.toNat
  have h2 := prox_le d t d.proxies (numsM d t d.n.toNat) (d.n.toNat : Int) h1.1 h1.2
  unfold numsL
  omega
theorem pre_get {σ : Type} {l : Lp σ} {m : Mem} {H : List Blk} {n : Nat} {s : σ} {v : AV} {st : LSt} {pd : Option Jmp} {k : Nat} {b : Blk} (h : H.take n = l.low m s v st pd) (hk : m.h.length + k < n) (hb : (l.P s v)[k]? = some b) : H[m.h.length + k]? = some b := by
  rw [take_get h hk]
  unfold Lp.low
  rw [List.append_assoc, get_midk, List.getElem?_append_left (getElem?_lt' hb)]
  exact hb
where getElem?_lt' {α : Type} {l : List α} {i : Nat} {x : α} (h : l[i]? = some x) : i < l.length := (List.getElem?_eq_some_iff.1 h).1
section
variable {d : Div} {a0 a1 n0 n1 p q : RV}
theorem al_ok (hs : DivS d a0 a1 n0 n1 p q) (hr : rightB d = true) (h0 : 0 ≤ d.rule) (m : Mem) {D R : List RV} (hR : R = lookC d (divC d a0 a1 n0 n1 p q)) : (lpA d m.h.length D R).Ok m where
  len := fun _ _ => rfl
  al := fun s t => (alStep_2 d s t).symm
  rk := fun s t => alStep_len d s t
  jb := by show 2 < 3; omega
  body := by
    intro s v t Hb W X _ hrk ht htk hG hX1 hX2 hT
    have hrk : s.length < 10000 := hrk
    have htk : Hb.take (m.h.length + 5) = (lpA d m.h.length D R).low m s v .busy none := htk
    have hG : GS Hb (m.h.length + 5) ty_uint8 1 (ints .u8 s) s.length v := hG
    have lR : R.length = 91 := by rw [hR]; exact lookC_len
    have tR : List.take 91 (rs R) = rs R := List.take_of_length_le (by rw [rs_len]; omega)
    have l40 : (ints .u8 t).length = 40 := by rw [ints_len]; exact ht.1
    have t40 : List.take 40 (rs (ints .u8 t)) = rs (ints .u8 t) := List.take_of_length_le (by rw [rs_len]; omega)
    have gX : Hb[m.h.length + 1]? = some (.cells (rs R) ty_tally_looked 0) := pre_get htk (by omega) rfl
    have gV : Hb[m.h.length + 2]? = some (.cells [v] ty_Suint8 0) := pre_get htk (by omega) rfl
    have hlen : m.h.length + 5 ≤ Hb.length := by
      have := congrArg List.length htk
      rw [List.length_take] at this
      have h2 : ((lpA d m.h.length D R).low m s v .busy none).length = m.h.length + 5 := by simp [Lp.low, lpA]
      omega
    have hnl := nums_le hr t
    obtain ⟨c1, k1⟩ := numbers_spec hs hr ht.1 { h := Hb }
    obtain ⟨c2, k2⟩ := outcome_spec (a0 := a0) (a1 := a1) (n0 := n0) (n1 := n1) (p := p) (q := q) hr h0 (numsL d t) hnl.1 hnl.2 { h := Hb }
    rw [← hR] at k1 k2
    obtain ⟨o, ho⟩ : ∃ o, o = outcomeI d (numsL d t) := ⟨_, rfl⟩
    obtain ⟨n, hn⟩ : ∃ n, n = numsL d t := ⟨_, rfl⟩
    obtain ⟨c3, k3⟩ := ContainsU_spec (m := { h := Hb, wr := W }) (Arr.ofGS hG) (by omega) o
    have hstep : (lpA d m.h.length D R).step s t = if s.contains o = true then (s, true) else (s ++ [o], true) := by rw [ho]; rfl
    obtain ⟨I, hI⟩ : ∃ I, I = ints .u8 t := ⟨_, rfl⟩
    rw [← hI] at k1 hT l40 t40 ⊢
    rw [← ho] at k2
    rw [← hn] at k1 k2
    simp only [nmR] at k2
    cases e : s.contains o with
    | true =>
      rw [e] at k3
      rw [if_pos e] at hstep
      rw [hstep]
      have hs2 : ∃ s2, Den C (lpA d m.h.length D R).bd { env := ((lpA d m.h.length D R).tt, .own X 0 0) :: ((lpA d m.h.length D R).pt, .r (.agg I)) :: (lpA d m.h.length D R).E, m := { h := Hb, wr := W }, round := some (m.h.length + 3 + 1) } .norm s2 ∧ s2.m = { h := Hb, wr := W } := by
        refine ⟨_, .ofN ⟨c1 + c2 + c3, fun k hk => by
          simp [lpA, b_tally_Allowed_0, dn_drawF, denF, denFI, stepF, slotFree, slotOf, foot, avIdx, pairsOk, apartL_nil, wrAll_self, gX, gV, hT, rs_len, lR, tR, l40, t40, k1 k (by omega), k2 k (by omega), k3 k (by omega)]
          rfl⟩, rfl⟩
      obtain ⟨s2, k4, m4⟩ := hs2
      refine ⟨s2, .norm, v, k4, .inl ⟨rfl, rfl⟩, ?_⟩
      rw [m4]
      exact ⟨htk, hG, fun _ _ _ _ => rfl, Nat.le_refl _, fun x hx => .inl hx, fun j hj => .inl hj, .inl rfl⟩
    | false =>
      rw [e] at k3
      rw [if_neg (by rw [e]; simp)] at hstep
      rw [hstep]
      obtain ⟨B, g, H', W', hA, hB, hG2, hfr, hBx, hl2, hkt, hW'⟩ := hG.app2 (new := [.lit (.int .u8 o)]) (k := 1) W 1 (some 1) hlen (by omega) rfl ⟨by omega, by omega⟩
      have gV' : H'[m.h.length + 2]? = some (.cells [v] ty_Suint8 0) := by rw [take_get hkt (by omega), List.getElem?_take_of_lt (by omega)]; exact gV
      obtain ⟨H2, hH2⟩ : ∃ H2, H2 = H'.set (m.h.length + 2) (.cells [.osl B g 0 (s.length + 1) 1 none] ty_Suint8 0) := ⟨_, rfl⟩
      have hs2 : ∃ s2, Den C (lpA d m.h.length D R).bd { env := ((lpA d m.h.length D R).tt, .own X 0 0) :: ((lpA d m.h.length D R).pt, .r (.agg I)) :: (lpA d m.h.length D R).E, m := { h := Hb, wr := W }, round := some (m.h.length + 3 + 1) } .norm s2 ∧ s2.m.h = H2 ∧ s2.m.wr = (m.h.length + 2) :: W' := by
        refine ⟨_, .ofN ⟨c1 + c2 + c3, fun k hk => by
          simp [lpA, b_tally_Allowed_0, dn_drawF, denF, denFI, stepF, slotFree, slotOf, foot, avIdx, pairsOk, apartL_nil, wrAll_self, gX, gV, hT, rs_len, lR, tR, l40, t40, k1 k (by omega), k2 k (by omega), k3 k (by omega), allR, AV.toR, repl, hA, gV', ← hH2]
          rfl⟩, rfl, rfl⟩
      obtain ⟨s2, k4, m4, w4⟩ := hs2
      refine ⟨s2, .norm, .osl B g 0 (s.length + 1) 1 none, k4, .inl ⟨rfl, rfl⟩, ?_, ?_, ?_, ?_, ?_, ?_, .inr ⟨by rw [w4]; simp [lpA], rfl⟩⟩
      · rw [m4]
        show H2.take (m.h.length + 5) = _
        rw [hH2, List.take_set, hkt, htk]
        unfold Lp.low
        rw [List.append_assoc, List.append_assoc, set_mid]; rfl
      · rw [m4]
        show GS H2 (m.h.length + 5) ty_uint8 1 (ints .u8 (s ++ [o])) (s ++ [o]).length _
        rw [show ints .u8 (s ++ [o]) = ints .u8 s ++ [.lit (.int .u8 o)] by simp [ints], show (s ++ [o]).length = s.length + 1 by simp]
        exact hG2.same fun j hj => by
          have := (hG2.idx j hj).1
          rw [hH2, List.getElem?_set_ne (by omega)]
      · intro j h1 h2 h3
        have h1 : m.h.length + 5 ≤ j := h1
        rw [m4, hH2, List.getElem?_set_ne (by omega)]
        exact hfr j h2 h3
      · rw [m4, hH2, List.length_set]; exact hl2
      · intro x hx
        rw [w4] at hx
        rcases List.mem_cons.1 hx with rfl | hx
        · exact .inr (by omega)
        · rcases hW' x hx with h | h
          · exact .inl h
          · exact .inr (by omega)
      · intro j hj
        simp [avIdx] at hj
        subst hj
        rcases hBx with h | h
        · exact .inl h
        · exact .inr (by omega)
end
end Go.AM.T
/- What the functions compute (own work). -/
namespace Go.AM.T
open Go Go.AM
attribute [local simp] so_mov so_pick so_alloc so_box so_build so_slit so_load so_store so_nilc so_bin so_beq so_eqs so_eqn so_eqnl so_not so_conv so_s2b so_mkfn so_slcA so_padd so_fld so_idxA so_idxV so_idxT so_look so_mupd so_mkmap so_mksl so_ext so_app so_lenT so_lenM so_min so_max so_cpy so_clr so_mkif so_tass so_lenS so_idxS so_slc
attribute [local simp] dn_skip dn_label dn_ret dn_exit dn_scope dn_keep dn_reg dn_draw0 noSlots denE denEI stepE  sd_mov sd_pick sd_build sd_load sd_store sd_nilc sd_bin sd_beq sd_eqs sd_eqn sd_eqnl sd_not sd_conv sd_s2b sd_mkfn sd_slc sd_slcA sd_padd sd_fld sd_idxS sd_idxA sd_idxV sd_idxT sd_look sd_mupd sd_ext sd_app sd_lenS sd_lenT sd_lenM sd_min sd_max sd_mkif sd_tass sd_call sd_slit dn_seq dn_cond dn_block dn_loop kn_call denIs denI denOp wants ev eget putD binL enumFrom AV.bool? AV.int? ekeep evs evp runV fin runDefs resAll resOf tupOf unit AV.cells okV ok1 Value.oneCell' fill setN rcells rs_nil rs_cons load_own load_cons mkAgg_rs storeN jmpOut
attribute [local simp] dvL dv1t dvAt mkAgg2 dv0 dv1 dv2 dv3 dv4 dv5 dv6 dv7 dv8 dv9 dv10 dvA dvN dvAll C_fz fzr
def VOs (s : List Int) : Prop := s.Nodup ∧ ∀ x ∈ s, x = 0 ∨ x = 1 ∨ x = 2
theorem nodup_le {s m : List Int} (hs : s.Nodup) (h : ∀ x ∈ s, x ∈ m) : s.length ≤ m.length := by
  induction s generalizing m with
  | nil => simp
  | cons a s ih =>
    have ha := h a (by simp)
    rw [List.nodup_cons] at hs
    have h1 := ih (m := m.erase a) hs.2 fun x hx => by
      rw [List.mem_erase_of_ne (by rintro rfl; exact hs.1 hx)]
      exact h x (by simp [hx])
    have h2 := List.length_erase_of_mem ha
    have h3 := List.length_pos_of_mem ha
    simp only [List.length_cons]; omega
theorem VOs.le {s : List Int} (h : VOs s) : s.length ≤ 3 := nodup_le (m := [0, 1, 2]) h.1 fun x hx => by simpa using h.2 x hx
theorem outcome_v (d : Div) (n : Int × Int) : outcomeI d n = 0 ∨ outcomeI d n = 1 ∨ outcomeI d n = 2 := by
  unfold outcomeI
  split
  · exact .inr (.inr rfl)
  · split
    · exact .inr (.inl rfl)
    · exact .inl rfl
theorem alStep_ok {d : Div} {s t : List Int} (h : VOs s) : VOs (alStep d s t).1 := by
  unfold alStep
  split
  · exact h
  · rename_i hc
    have hc : outcomeI d (numsL d t) ∉ s := by simpa using hc
    refine ⟨?_, fun x hx => ?_⟩
    · show (s ++ [outcomeI d (numsL d t)]).Nodup
      rw [List.nodup_append]
      refine ⟨h.1, by simp, fun a ha b hb => ?_⟩
      simp at hb
      subst hb
      rintro rfl
      exact hc ha
    · rcases List.mem_append.1 hx with hx | hx
      · exact h.2 x hx
      · simp at hx; subst hx; exact outcome_v _ _
/-- The outcomes of some truths. -/
theorem alF_ok {d : Div} : ∀ (l : List (List Int)) (s : List Int), VOs s → VOs (foldS (alStep d) s l).1
  | [], s, h => h
  | t :: l, s, h => by
    rw [foldS_cons, if_pos (alStep_2 d s t)]
    exact alF_ok l _ (alStep_ok h)
theorem alF_mem {d : Div} : ∀ (l : List (List Int)) (s : List Int) (o : Int), o ∈ (foldS (alStep d) s l).1 ↔ o ∈ s ∨ ∃ t ∈ l, outcomeI d (numsL d t) = o
  | [], s, o => by simp [foldS]
  | t :: l, s, o => by
    rw [foldS_cons, if_pos (alStep_2 d s t), alF_mem l]
    have : o ∈ (alStep d s t).1 ↔ o ∈ s ∨ outcomeI d (numsL d t) = o := by
      unfold alStep
      split
      · rename_i hc
        have hc : outcomeI d (numsL d t) ∈ s := by simpa using hc
        constructor
        · exact fun h => .inl h
        · rintro (h | rfl)
          · exact h
          · exact hc
      · rw [List.mem_append, List.mem_singleton, eq_comm (a := o)]
    rw [this]
    simp only [List.mem_cons, exists_eq_or_imp, or_assoc]
def alL (d : Div) : List Int := (foldS (alStep d) [] (truthsOf d)).1
theorem alL_ok (d : Div) : VOs (alL d) := alF_ok _ _ ⟨by simp, by simp⟩
theorem alL_mem {d : Div} {o : Int} : o ∈ alL d ↔ ∃ t ∈ truthsOf d, outcomeI d (numsL d t) = o := by unfold alL; rw [alF_mem]; simp
/-- The outcomes that the lists allow. -/
def alS (d : Div) : List Int := [0, 1, 2].filter fun o => (alL d).contains o
theorem insL_ok {s : List Int} (h : VOs s) : insL s = [0, 1, 2].filter fun o => s.contains o := by
  have hl := h.le
  have hv := h.2
  have hn := h.1
  match s, hl, hv, hn with
  | [], _, _, _ => rfl
  | [a], _, hv, _ => rcases hv a (by simp) with rfl | rfl | rfl <;> rfl
  | [a, b], _, hv, hn =>
    rcases hv a (by simp) with rfl | rfl | rfl <;> rcases hv b (by simp) with rfl | rfl | rfl <;> first | rfl | (exfalso; simp at hn)
  | [a, b, c], _, hv, hn =>
    rcases hv a (by simp) with rfl | rfl | rfl <;> rcases hv b (by simp) with rfl | rfl | rfl <;> rcases hv c (by simp) with rfl | rfl | rfl <;> first | rfl | (exfalso; simp at hn)
  | a :: b :: c :: e :: r, hl, _, _ => simp at hl
theorem truthsOf_ne {d : Div} (ho : openI d = 0) : truthsOf d ≠ [] := by
  obtain ⟨hr, hcl, hd⟩ := openI0 ho
  have hn := right_n hr
  rw [truthsOf_rt hn.2]
  have hne : ∀ k : Nat, (k : Int) < d.n → may d k ≠ [] := fun k hk e => by
    have : bothB d k = true := by rw [← may_nil]; simp [e]
    unfold clashB at hcl
    rw [List.find?_eq_none] at hcl
    exact hcl k (by simp; omega) this
  have := rtF_ne (d := d) d.n.toNat [] fun k hk => hne k (by simp at hk; omega)
  unfold rtOf
  simpa using this
theorem truthsOf_count {d : Div} (ho : openI d = 0) : (truthsOf d).length ≤ 6561 := by
  obtain ⟨hr, hcl, hd⟩ := openI0 ho
  rw [truthsOf_rt (right_n hr).2, List.length_map]
  exact rtOf_count hd
theorem alL_ne {d : Div} (ho : openI d = 0) : alL d ≠ [] := by
  obtain ⟨t, ht⟩ := List.exists_mem_of_ne_nil _ (truthsOf_ne ho)
  have : outcomeI d (numsL d t) ∈ alL d := alL_mem.2 ⟨t, ht, rfl⟩
  intro e; rw [e] at this; cases this
theorem alS_len {d : Div} : (alS d).length = (alL d).length := by
  unfold alS
  rw [← insL_ok (alL_ok d)]
  unfold insL
  rw [insF_len]
section
variable {d : Div} {a0 a1 n0 n1 p q : RV}
theorem Allowed_spec (hs : DivS d a0 a1 n0 n1 p q) (hb : Small d) (hru : 0 ≤ d.rule ∧ d.rule ≤ 255) (m : Mem) : CallR C (fnv fn_tally_Allowed) [.r (.agg (divC d a0 a1 n0 n1 p q))] m
    (.ret (.tup [.r (if openI d = 0 then .sl (ints .u8 (alS d)) (alS d).length none else .nil), i64 (openI d)]) m) := by
  obtain ⟨R, hRR⟩ : ∃ R, R = (if openI d = 0 then lookC d (divC d a0 a1 n0 n1 p q) else z_tally_looked) := ⟨_, rfl⟩
  have lR : R.length = 91 := by rw [hRR]; split <;> rfl
  have hRt : List.take 91 (rs R) = rs R := List.take_of_length_le (by rw [rs_len]; omega)
  obtain ⟨Z, hZ⟩ : ∃ Z, Z = z_tally_looked := ⟨_, rfl⟩
  have hZl : Z.length = 91 := by rw [hZ]; rfl
  have hZd : List.drop 91 (rs Z) = [] := List.drop_eq_nil_of_le (by rw [rs_len]; omega)
  have hd11 : (divC d a0 a1 n0 n1 p q).length = 11 := rfl
  obtain ⟨D, hD⟩ : ∃ D, D = divC d a0 a1 n0 n1 p q := ⟨_, rfl⟩
  obtain ⟨c1, k1⟩ := topen_spec hs hb hru { h := m.h ++ [.cells (rs (divC d a0 a1 n0 n1 p q)) ty_tally_Division 0] }
  rw [← hRR] at k1
  by_cases e : openI d = 0
  · rw [if_pos e] at hRR
    rw [e] at k1
    rw [if_pos e, e]
    obtain ⟨hr, -, -⟩ := openI0 e
    have hn := right_n hr
    have hok := al_ok hs hr hru.1 m (D := D) hRR
    obtain ⟨H', W', v, ⟨c2, k2⟩, htk, hG, hw⟩ := Lp.range hok (by show 7 ≠ 19; omega) hn (R := R) (fun m => by rw [hRR]; exact lookC_p0 m) (fun m k h1 h2 => by rw [hRR]; exact lookC_pm m k h1 h2) (q := 18) rfl [] rfl (by show 0 + (truthsOf d).length ≤ 10000; have := truthsOf_count e; omega) rfl rfl [m.h.length + 1]
    have hF : (foldS (lpA d m.h.length D R).step [] (truthsOf d)).1 = alL d := rfl
    rw [hF] at htk hG k2
    have k2 : ∀ k, c2 ≤ k → den (Kn C k) (.rangeF (.t 18) [19] s_tally_Allowed_0 b_tally_Allowed_0) { env := [(2, .r .nil), (3, i64 0), (4, .own (m.h.length + 1) 0 0), (6, .own (m.h.length + 2) 0 0), (18, .r (.fn fn_tally_looked_truths_1 [] [.ptr R]))], m := { h := m.h ++ [.cells (rs D) ty_tally_Division 0, .cells (rs R) ty_tally_looked 0, .cells [.r .nil] ty_Suint8 0], wr := [m.h.length + 1] } } = some (.norm, { env := [(2, .r .nil), (3, i64 0), (4, .own (m.h.length + 1) 0 0), (6, .own (m.h.length + 2) 0 0), (18, .r (.fn fn_tally_looked_truths_1 [] [.ptr R]))], m := { h := H', wr := W' }, defs := [.dfr (m.h.length + 3)] }) := k2
    have htk : H'.take (m.h.length + 5) = m.h ++ [.cells (rs D) ty_tally_Division 0, .cells (rs R) ty_tally_looked 0, .cells [v] ty_Suint8 0] ++ [.dfr, .dead] := htk
    have hG : GS H' (m.h.length + 5) ty_uint8 1 (ints .u8 (alL d)) (alL d).length v := hG
    have g2 : H'[m.h.length + 2]? = some (.cells [v] ty_Suint8 0) := by rw [take_get htk (by omega), List.append_assoc, get_midk]; rfl
    have g3 : H'[m.h.length + 3]? = some .dfr := by rw [take_get htk (by omega), List.append_assoc, get_midk]; rfl
    have ht : H'.take m.h.length = m.h := by
      have := congrArg (List.take m.h.length) htk
      rw [List.take_take, Nat.min_eq_left (by omega), List.append_assoc, List.take_left'] at this
      · exact this
      · rfl
    have hal := alL_ok d
    have hle := hal.le
    cases hG with
    | nil e1 e2 => exact absurd (List.length_eq_zero_iff.1 e1) (alL_ne e)
    | osl B g h1 h2 h3 h4 =>
      have hBl := getElem?_lt h2
      obtain ⟨W2, ⟨c3, k3⟩, hw2⟩ := Sort_spec (l := alL d) ⟨h3, hle⟩ h2 W'
      obtain ⟨c4, k4⟩ := truths_spec lR { h := m.h ++ [.cells (rs D) ty_tally_Division 0, .cells (rs R) ty_tally_looked 0, .cells [.r .nil] ty_Suint8 0], wr := [m.h.length + 1] }
      rw [insL_ok hal] at k3
      rw [show List.filter (fun o => (alL d).contains o) [0, 1, 2] = alS d from rfl] at k3
      obtain ⟨I, hI⟩ : ∃ I, I = ints .u8 (alS d) := ⟨_, rfl⟩
      obtain ⟨n, hnn⟩ : ∃ n, n = (alL d).length := ⟨_, rfl⟩
      have hIl : I.length = n := by rw [hI, ints_len, alS_len, hnn]
      rw [alS_len, ← hI, ← hnn]
      rw [← hI, ← hnn] at k3
      rw [← hnn] at g2 h3 hle
      obtain ⟨H3, hH3⟩ : ∃ H3, H3 = H'.set B (.cells (rs I) ty_uint8 g) := ⟨_, rfl⟩
      rw [← hH3] at k3
      have g33 : H3[m.h.length + 3]? = some .dfr := by rw [hH3, List.getElem?_set_ne (by omega)]; exact g3
      have g32 : H3[m.h.length + 2]? = some (.cells [.osl B g 0 n 1 none] ty_Suint8 0) := by rw [hH3, List.getElem?_set_ne (by omega)]; exact g2
      obtain ⟨H4, hH4⟩ : ∃ H4, H4 = H3.set (m.h.length + 3) .dead := ⟨_, rfl⟩
      have g4 : H4[B]? = some (.cells (rs I) ty_uint8 g) := by rw [hH4, List.getElem?_set_ne (by omega), hH3, List.getElem?_set_self hBl]
      have hz : ∀ W, fz { h := H4, wr := W } m.h.length 999998 (.osl B g 0 n 1 none) = some (.r (.sl I n none)) := fun W => fz_osl (t := ty_uint8) g4 (by omega) (by omega) (by omega)
      have hzt : ∀ W, fz { h := H4, wr := W } m.h.length 1000000 (.tup [.osl B g 0 n 1 none, i64 0]) = some (.tup [.r (.sl I n none), i64 0]) := fun W => fz_tup (k := 999999) (fzs_one (k := 999998) (hz W) (fzs_one (k := 999997) rfl rfl))
      refine CallR.eval (m1 := { h := H4, wr := (m.h.length + 3) :: W2 }) rfl rfl prog_tally_Allowed rfl ⟨c1 + c2 + c3 + c4, fun k hk => ?_⟩ (by rw [hH4, List.take_set_of_le (by omega), hH3, List.take_set_of_le (by omega)]; exact ht) (by
        intro x hx
        rcases List.mem_cons.1 hx with rfl | hx
        · omega
        · rcases hw2 x hx with h | rfl
          · rcases hw x h with h | h
            · simp at h; omega
            · exact h
          · omega)
      rw [← hD] at k1 hd11 ⊢
      have hDt : List.take 11 (rs D) = rs D := List.take_of_length_le (by rw [rs_len]; omega)
      simp [a_tally_Allowed, ← hZ, hd11, hDt, rs_len, hZl, hZd, lR, hRt, k1 k (by omega), k4 k (by omega), k2 k (by omega), k3 k (by omega), g2, g32, g33, ← hH4, hzt]
  · rw [if_neg e]
    have e' : (openI d == 0) = false := by simpa using e
    refine CallR.eval (m1 := { h := m.h ++ [.cells (rs (divC d a0 a1 n0 n1 p q)) ty_tally_Division 0, .cells (rs R) ty_tally_looked 0], wr := [m.h.length + 1] }) rfl rfl prog_tally_Allowed rfl ⟨c1, fun k hk => ?_⟩ (by simp) (by simp)
    simp [a_tally_Allowed, ← hZ, hd11, rs_len, hZl, hZd, lR, hRt, k1 k (by omega), e', e, fz, fzs]
end
end Go.AM.T
/- What the functions compute (own work). -/
namespace Go.AM.T
open Go Go.AM
attribute [local simp] so_mov so_pick so_alloc so_box so_build so_slit so_load so_store so_nilc so_bin so_beq so_eqs so_eqn so_eqnl so_not so_conv so_s2b so_mkfn so_slcA so_padd so_fld so_idxA so_idxV so_idxT so_look so_mupd so_mkmap so_mksl so_ext so_app so_lenT so_lenM so_min so_max so_cpy so_clr so_mkif so_tass so_lenS so_idxS so_slc
attribute [local simp] dn_skip dn_label dn_ret dn_exit dn_scope dn_keep dn_reg dn_draw0 noSlots denE denEI stepE  sd_mov sd_pick sd_build sd_load sd_store sd_nilc sd_bin sd_beq sd_eqs sd_eqn sd_eqnl sd_not sd_conv sd_s2b sd_mkfn sd_slc sd_slcA sd_padd sd_fld sd_idxS sd_idxA sd_idxV sd_idxT sd_look sd_mupd sd_ext sd_app sd_lenS sd_lenT sd_lenM sd_min sd_max sd_mkif sd_tass sd_call sd_slit dn_seq dn_cond dn_block dn_loop kn_call denIs denI denOp wants ev eget putD binL enumFrom AV.bool? AV.int? ekeep evs evp runV fin runDefs resAll resOf tupOf unit AV.cells okV ok1 Value.oneCell' fill setN rcells rs_nil rs_cons load_own load_cons mkAgg_rs storeN jmpOut
attribute [local simp] dvL dv1t dvAt mkAgg2 dv0 dv1 dv2 dv3 dv4 dv5 dv6 dv7 dv8 dv9 dv10 dvA dvN dvAll C_fz fzr
/-- A truth with its outcome: the cells; all of them. -/
def toldC (d : Div) (t : List Int) : List RV := ints .u8 (t ++ [outcomeI d (numsL d t)])
def toldsC (d : Div) (l : List (List Int)) : List RV := l.flatMap (toldC d)
theorem toldC_len (d : Div) {t : List Int} (h : t.length = 40) : (toldC d t).length = 41 := by unfold toldC; rw [ints_len]; simp [h]
theorem toldsC_len (d : Div) : ∀ {l : List (List Int)}, (∀ t ∈ l, t.length = 40) → (toldsC d l).length = l.length * 41
  | [], _ => rfl
  | t :: l, h => by
    have h1 := toldsC_len d (l := l) fun x hx => h x (by simp [hx])
    have h2 := toldC_len d (h t (by simp))
    unfold toldsC at h1 ⊢
    rw [List.flatMap_cons, List.length_append, h1, h2, List.length_cons, Nat.add_mul]; omega
def lpT (d : Div) (L : Nat) (R : List RV) : Lp (List (List Int)) where
  E := [(1, .own L 0 0), (2, .own (L + 1) 0 0), (5, .r (.fn fn_tally_looked_truths_1 [] [.ptr R]))]
  pt := 6
  tt := 3
  bd := b_tally_looked_all_0
  k := 2
  P := fun _ v => [.cells (rs R) ty_tally_looked 0, .cells [v] ty_Stally_told 0]
  T := ty_tally_told
  sz := 41
  cs := toldsC d
  nn := List.length
  jb := 1
  Tb := ty_Stally_told
  alive := fun _ => true
  rank := List.length
  N := 10000
  step := fun s t => (s ++ [t], true)
section
variable {d : Div} {a0 a1 n0 n1 p q : RV}
theorem told_ok (hs : DivS d a0 a1 n0 n1 p q) (hr : rightB d = true) (h0 : 0 ≤ d.rule) (m : Mem) {R : List RV} (hR : R = lookC d (divC d a0 a1 n0 n1 p q)) : (lpT d m.h.length R).Ok m where
  len := fun _ _ => rfl
  al := fun s t => rfl
  rk := fun s t => by simp [lpT]
  jb := by show 1 < 2; omega
  body := by
    intro s v t Hb W X _ hrk ht htk hG hX1 hX2 hT
    have hrk : s.length < 10000 := hrk
    have htk : Hb.take (m.h.length + 4) = (lpT d m.h.length R).low m s v .busy none := htk
    have hG : GS Hb (m.h.length + 4) ty_tally_told 41 (toldsC d s) s.length v := hG
    have lR : R.length = 91 := by rw [hR]; exact lookC_len
    have tR : List.take 91 (rs R) = rs R := List.take_of_length_le (by rw [rs_len]; omega)
    have l40 : (ints .u8 t).length = 40 := by rw [ints_len]; exact ht.1
    have t40 : List.take 40 (rs (ints .u8 t)) = rs (ints .u8 t) := List.take_of_length_le (by rw [rs_len]; omega)
    have gX : Hb[m.h.length]? = some (.cells (rs R) ty_tally_looked 0) := by have := pre_get (k := 0) htk (by omega) rfl; simpa using this
    have gV : Hb[m.h.length + 1]? = some (.cells [v] ty_Stally_told 0) := pre_get htk (by omega) rfl
    have hlen : m.h.length + 4 ≤ Hb.length := by
      have := congrArg List.length htk
      rw [List.length_take] at this
      have h2 : ((lpT d m.h.length R).low m s v .busy none).length = m.h.length + 4 := by simp [Lp.low, lpT]
      omega
    have hnl := nums_le hr t
    obtain ⟨c1, k1⟩ := numbers_spec hs hr ht.1 { h := Hb }
    obtain ⟨c2, k2⟩ := outcome_spec (a0 := a0) (a1 := a1) (n0 := n0) (n1 := n1) (p := p) (q := q) hr h0 (numsL d t) hnl.1 hnl.2 { h := Hb }
    rw [← hR] at k1 k2
    have hC := toldC_len d ht.1
    have hCs : rs (toldC d t) = rs (ints .u8 t) ++ [u8 (outcomeI d (numsL d t))] := by unfold toldC; simp [ints, rs]
    obtain ⟨Cc, hCc⟩ : ∃ Cc, Cc = toldC d t := ⟨_, rfl⟩
    obtain ⟨o, ho⟩ : ∃ o, o = outcomeI d (numsL d t) := ⟨_, rfl⟩
    obtain ⟨n, hn⟩ : ∃ n, n = numsL d t := ⟨_, rfl⟩
    obtain ⟨I, hI⟩ : ∃ I, I = ints .u8 t := ⟨_, rfl⟩
    have hsC : (lpT d m.h.length R).cs ((lpT d m.h.length R).step s t).1 = toldsC d s ++ Cc := by
      show toldsC d (s ++ [t]) = _
      unfold toldsC
      rw [List.flatMap_append, hCc]; simp
    rw [← ho] at k2 hCs
    rw [← hn] at k1 k2
    rw [← hI] at k1 hT l40 t40 hCs ⊢
    rw [← hCc] at hC hCs
    simp only [nmR] at k2
    obtain ⟨B, g, H', W', hA, hB, hG2, hfr, hBx, hl2, hkt, hW'⟩ := hG.app2 (new := Cc) (k := 1) [] 41 (some 1) hlen (by omega) (by omega) ⟨by omega, by omega⟩
    have gV' : H'[m.h.length + 1]? = some (.cells [v] ty_Stally_told 0) := by rw [take_get hkt (by omega), List.getElem?_take_of_lt (by omega)]; exact gV
    obtain ⟨H2, hH2⟩ : ∃ H2, H2 = H'.set (m.h.length + 1) (.cells [.osl B g 0 (s.length + 1) 41 none] ty_Stally_told 0) := ⟨_, rfl⟩
    have hwa : apartL (wrAll Hb.length { h := H', wr := W' }) [] = true := by unfold apartL; simp
    have hmk1 : mkAgg (rs I ++ [u8 o]) = .r (.agg Cc) := by rw [← hCs, mkAgg_rs]
    have hZl : (rs z_tally_told).length = 41 := by rw [rs_len]; rfl
    have hf1 : fill (rs z_tally_told) [(0, 40, .r (.agg I)), (40, 1, u8 o)] = some (rs Cc) := by
      have h1 : (rs I).length = 40 := by rw [rs_len]; exact l40
      have h2 : List.drop 40 (rs z_tally_told) = [.r (.lit (.int .u8 0))] := by rfl
      simp [fill, h1, hZl, setN, hCs, l40, rs_len, h2, List.take_of_length_le, List.take_append_of_le_length]
    have hf2 : fill (rs (repl z_tally_told 1)) [(0, 41, .r (.agg Cc))] = some (rs Cc) := by
      have h1 : (rs (repl z_tally_told 1)).length = 41 := by rw [rs_len]; rfl
      have h2 : List.drop 41 (rs (repl z_tally_told 1)) = [] := List.drop_eq_nil_of_le (by omega)
      simp [fill, h1, setN, rs_len, hC, h2]
    have hs2 : ∃ s2, Den C (lpT d m.h.length R).bd { env := ((lpT d m.h.length R).tt, .own X 0 0) :: ((lpT d m.h.length R).pt, .r (.agg I)) :: (lpT d m.h.length R).E, m := { h := Hb, wr := W }, round := some (m.h.length + 2 + 1) } .norm s2 ∧ s2.m.h = H2 ∧ s2.m.wr = (m.h.length + 1) :: (W' ++ W) := by
      refine ⟨_, .ofN ⟨c1 + c2, fun k hk => by
        simp [lpT, b_tally_looked_all_0, -fill, dn_drawF, denF, denFI, stepF, slotFree, slotOf, foot, avIdx, pairsOk, apartL_nil, wrAll_self, gX, gV, hT, rs_len, lR, tR, l40, t40, k1 k (by omega), k2 k (by omega), hf1, hf2, allR_rs, hC, hA, gV', ← hH2, hwa]
        rfl⟩, rfl, rfl⟩
    obtain ⟨s2, k4, m4, w4⟩ := hs2
    refine ⟨s2, .norm, .osl B g 0 (s.length + 1) 41 none, k4, .inl ⟨rfl, rfl⟩, ?_, ?_, ?_, ?_, ?_, ?_, .inr ⟨by rw [w4]; simp [lpT], rfl⟩⟩
    · rw [m4]
      show H2.take (m.h.length + 4) = _
      rw [hH2, List.take_set, hkt, htk]
      unfold Lp.low
      rw [List.append_assoc, List.append_assoc, set_mid]; rfl
    · rw [m4, hsC]
      show GS H2 (m.h.length + 4) ty_tally_told 41 (toldsC d s ++ Cc) (s ++ [t]).length _
      rw [show (s ++ [t]).length = s.length + 1 by simp]
      exact hG2.same fun j hj => by
        have := (hG2.idx j hj).1
        rw [hH2, List.getElem?_set_ne (by omega)]
    · intro j h1 h2 h3
      have h1 : m.h.length + 4 ≤ j := h1
      rw [m4, hH2, List.getElem?_set_ne (by omega)]
      exact hfr j h2 h3
    · rw [m4, hH2, List.length_set]; exact hl2
    · intro x hx
      rw [w4] at hx
      rcases List.mem_cons.1 hx with rfl | hx
      · exact .inr (by omega)
      · rcases List.mem_append.1 hx with hx | hx
        · rcases hW' x hx with h | h
          · cases h
          · exact .inr (by omega)
        · exact .inl hx
    · intro j hj
      simp [avIdx] at hj
      subst hj
      rcases hBx with h | h
      · exact .inl h
      · exact .inr (by omega)
theorem told_fold (d : Div) : ∀ (l s : List (List Int)), (foldS (fun (s : List (List Int)) t => (s ++ [t], true)) s l).1 = s ++ l
  | [], s => by simp [foldS]
  | t :: l, s => by
    rw [foldS_cons]
    simp only [if_true]
    rw [told_fold d l]; simp
theorem truthsOf_len {d : Div} (h : d.n ≤ 40) : ∀ t ∈ truthsOf d, t.length = 40 := by
  rw [truthsOf_rt h]
  intro t ht
  obtain ⟨u, hu, rfl⟩ := List.mem_map.1 ht
  have := rtF_len _ _ _ hu
  unfold pad
  simp at this ⊢; omega
/-- All truths with their outcomes. -/
def allV (d : Div) : RV := .sl (toldsC d (truthsOf d)) (truthsOf d).length none
theorem all_told_spec (hs : DivS d a0 a1 n0 n1 p q) (hru : 0 ≤ d.rule) (e : openI d = 0) (m : Mem) : CallR C (fnv fn_tally_looked_all) [.r (.agg (lookC d (divC d a0 a1 n0 n1 p q)))] m (.ret (.r (allV d)) m) := by
  obtain ⟨R, hRR⟩ : ∃ R, R = lookC d (divC d a0 a1 n0 n1 p q) := ⟨_, rfl⟩
  have lR : R.length = 91 := by rw [hRR]; exact lookC_len
  have hRt : List.take 91 (rs R) = rs R := List.take_of_length_le (by rw [rs_len]; omega)
  obtain ⟨hr, -, -⟩ := openI0 e
  have hn := right_n hr
  have hok := told_ok hs hr hru m hRR
  obtain ⟨H', W', v, ⟨c2, k2⟩, htk, hG, hw⟩ := Lp.range hok (by show 3 ≠ 6; omega) hn (R := R) (fun m => by rw [hRR]; exact lookC_p0 m) (fun m k h1 h2 => by rw [hRR]; exact lookC_pm m k h1 h2) (q := 5) rfl [] rfl (by show 0 + (truthsOf d).length ≤ 10000; have := truthsOf_count e; omega) rfl rfl []
  have hF : (foldS (lpT d m.h.length R).step [] (truthsOf d)).1 = truthsOf d := told_fold d (truthsOf d) []
  rw [hF] at htk hG k2
  have k2 : ∀ k, c2 ≤ k → den (Kn C k) (.rangeF (.t 5) [6] s_tally_looked_all_0 b_tally_looked_all_0) { env := [(1, .own m.h.length 0 0), (2, .own (m.h.length + 1) 0 0), (5, .r (.fn fn_tally_looked_truths_1 [] [.ptr R]))], m := { h := m.h ++ [.cells (rs R) ty_tally_looked 0, .cells [.r .nil] ty_Stally_told 0], wr := [] } } = some (.norm, { env := [(1, .own m.h.length 0 0), (2, .own (m.h.length + 1) 0 0), (5, .r (.fn fn_tally_looked_truths_1 [] [.ptr R]))], m := { h := H', wr := W' }, defs := [.dfr (m.h.length + 2)] }) := k2
  have htk : H'.take (m.h.length + 4) = m.h ++ [.cells (rs R) ty_tally_looked 0, .cells [v] ty_Stally_told 0] ++ [.dfr, .dead] := htk
  have hG : GS H' (m.h.length + 4) ty_tally_told 41 (toldsC d (truthsOf d)) (truthsOf d).length v := hG
  have hlt : ∀ j, j < 4 → m.h.length + j < H'.length := fun j hj => by
    have := congrArg List.length htk
    rw [List.length_take] at this
    simp at this; omega
  have g1 : H'[m.h.length + 1]? = some (.cells [v] ty_Stally_told 0) := by rw [take_get htk (by omega), List.append_assoc, get_midk]; rfl
  have g2 : H'[m.h.length + 2]? = some .dfr := by rw [take_get htk (by omega), List.append_assoc, get_midk]; rfl
  have ht : H'.take m.h.length = m.h := by
    have := congrArg (List.take m.h.length) htk
    rw [List.take_take, Nat.min_eq_left (by omega), List.append_assoc, List.take_left'] at this
    · exact this
    · rfl
  cases hG with
  | nil e1 e2 => exact absurd (List.length_eq_zero_iff.1 e1) (truthsOf_ne e)
  | osl B g h1 h2 h3 h4 =>
    have hcnt := truthsOf_count e
    obtain ⟨c4, k4⟩ := truths_spec lR { h := m.h ++ [.cells (rs R) ty_tally_looked 0, .cells [.r .nil] ty_Stally_told 0] }
    unfold allV
    obtain ⟨I, hI⟩ : ∃ I, I = toldsC d (truthsOf d) := ⟨_, rfl⟩
    obtain ⟨n, hnn⟩ : ∃ n, n = (truthsOf d).length := ⟨_, rfl⟩
    rw [← hI] at h2 h4 ⊢
    rw [← hnn] at h3 h4 g1 hcnt ⊢
    obtain ⟨H3, hH3⟩ : ∃ H3, H3 = H'.set (m.h.length + 1) (.cells [.osl B g 0 n 41 none] ty_Stally_told 0) := ⟨_, rfl⟩
    have g32 : H3[m.h.length + 2]? = some .dfr := by rw [hH3, List.getElem?_set_ne (by omega)]; exact g2
    obtain ⟨H4, hH4⟩ : ∃ H4, H4 = H3.set (m.h.length + 2) .dead := ⟨_, rfl⟩
    have g41 : H4[m.h.length + 1]? = some (.cells [.osl B g 0 n 41 none] ty_Stally_told 0) := by rw [hH4, List.getElem?_set_ne (by omega), hH3, List.getElem?_set_self (hlt 1 (by omega))]
    have g4 : H4[B]? = some (.cells (rs I) ty_tally_told g) := by rw [hH4, List.getElem?_set_ne (by omega), hH3, List.getElem?_set_ne (by omega)]; exact h2
    have hz : ∀ W, fz { h := H4, wr := W } m.h.length 1000000 (.osl B g 0 n 41 none) = some (.r (.sl I n none)) := fun W => fz_osl (t := ty_tally_told) g4 (by omega) h4 (by omega)
    refine CallR.eval (m1 := { h := H4, wr := (m.h.length + 2) :: (m.h.length + 1) :: W' }) rfl rfl prog_tally_looked_all rfl ⟨c2 + c4, fun k hk => ?_⟩ (by rw [hH4, List.take_set_of_le (by omega), hH3, List.take_set_of_le (by omega)]; exact ht) (by
      intro x hx
      rcases List.mem_cons.1 hx with rfl | hx
      · omega
      · rcases List.mem_cons.1 hx with rfl | hx
        · omega
        · rcases hw x hx with h | h
          · cases h
          · exact h)
    rw [← hRR]
    simp [a_tally_looked_all, rs_len, lR, hRt, k4 k (by omega), k2 k (by omega), g1, ← hH3, g32, ← hH4, g41, hz]
end
end Go.AM.T
/- What the functions compute (own work). -/
namespace Go.AM.T
open Go Go.AM
attribute [local simp] so_mov so_pick so_alloc so_box so_build so_slit so_load so_store so_nilc so_bin so_beq so_eqs so_eqn so_eqnl so_not so_conv so_s2b so_mkfn so_slcA so_padd so_fld so_idxA so_idxV so_idxT so_look so_mupd so_mkmap so_mksl so_ext so_app so_lenT so_lenM so_min so_max so_cpy so_clr so_mkif so_tass so_lenS so_idxS so_slc
attribute [local simp] dn_skip dn_label dn_ret dn_exit dn_scope dn_keep dn_reg dn_draw0 noSlots denE denEI stepE  sd_mov sd_pick sd_build sd_load sd_store sd_nilc sd_bin sd_beq sd_eqs sd_eqn sd_eqnl sd_not sd_conv sd_s2b sd_mkfn sd_slc sd_slcA sd_padd sd_fld sd_idxS sd_idxA sd_idxV sd_idxT sd_look sd_mupd sd_ext sd_app sd_lenS sd_lenT sd_lenM sd_min sd_max sd_mkif sd_tass sd_call sd_slit dn_seq dn_cond dn_block dn_loop kn_call denIs denI denOp wants ev eget putD binL enumFrom AV.bool? AV.int? ekeep evs evp runV fin runDefs resAll resOf tupOf unit AV.cells okV ok1 Value.oneCell' fill setN rcells rs_nil rs_cons load_own load_cons mkAgg_rs storeN jmpOut
attribute [local simp] dvL dv1t dvAt mkAgg2 dv0 dv1 dv2 dv3 dv4 dv5 dv6 dv7 dv8 dv9 dv10 dvA dvN dvAll C_fz fzr
/-- A map whose keys are answers. -/
def mapC (es : List (List Int × Int)) : List (RV × AV) := es.map fun e => (.agg (ints .u8 e.1), u8 e.2)
def lkA (a : List Int) : List (List Int × Int) → Nat → Option (Nat × Int)
  | [], _ => none
  | (b, o) :: es, i => if a = b then some (i, o) else lkA a es (i + 1)
theorem rvEqs_ints : ∀ (n : Nat) (a b : List Int), a.length = n → b.length = n → rvEqs (List.replicate n .i) (ints .u8 a) (ints .u8 b) = some (decide (a = b))
  | 0, [], [], _, _ => rfl
  | n + 1, x :: a, y :: b, ha, hb => by
    have ih := rvEqs_ints n a b (by simpa using ha) (by simpa using hb)
    rw [List.replicate_succ]
    show (match rvEq .i (.lit (.int .u8 x)) (.lit (.int .u8 y)), rvEqs (List.replicate n .i) (ints .u8 a) (ints .u8 b) with | some a, some b => some (a && b) | _, _ => none) = _
    rw [ih]
    simp only [rvEq, if_true]
    by_cases h1 : x = y <;> by_cases h2 : a = b <;> simp [h1, h2]
theorem findK_lk {a : List Int} (ha : a.length = 40) : ∀ (es : List (List Int × Int)) (i : Nat), (∀ e ∈ es, e.1.length = 40) → findK (some 40) (.agg (ints .u8 a)) (mapC es) i = some ((lkA a es i).map fun x => (x.1, u8 x.2))
  | [], i, _ => by
    show (if keyOk (some 40) (.agg (ints .u8 a)) then some none else none) = _
    rw [if_pos (by simp [keyOk, ints_len, ha])]; rfl
  | (b, o) :: es, i, h => by
    have ih := findK_lk ha es (i + 1) fun e he => h e (by simp [he])
    show (match keyEq (some 40) (.agg (ints .u8 a)) (.agg (ints .u8 b)) with | some true => some (some (i, u8 o)) | some false => findK (some 40) (.agg (ints .u8 a)) (mapC es) (i + 1) | none => none) = _
    unfold keyEq
    simp only
    rw [rvEqs_ints 40 a b ha (h (b, o) (by simp))]
    unfold lkA
    by_cases e : a = b
    · simp [e]
    · simp [e, ih]
theorem lkA_set {a : List Int} : ∀ (es : List (List Int × Int)) (i j : Nat) (o : Int), lkA a es i = some (j, o) → ∃ k, j = i + k ∧ es[k]? = some (a, o)
  | [], _, _, _, h => by simp [lkA] at h
  | (b, o') :: es, i, j, o, h => by
    unfold lkA at h
    by_cases e : a = b
    · rw [if_pos e] at h; cases h; exact ⟨0, rfl, by simp [e]⟩
    · rw [if_neg e] at h
      obtain ⟨k, h1, h2⟩ := lkA_set es (i + 1) j o h
      exact ⟨k + 1, by omega, by simpa using h2⟩
theorem mapC_set {a : List Int} {es : List (List Int × Int)} {j : Nat} {o : Int} (h : lkA a es 0 = some (j, o)) : (mapC es).set j (.agg (ints .u8 a), u8 o) = mapC es := by
  obtain ⟨k, h1, h2⟩ := lkA_set es 0 j o h
  have : j = k := by omega
  subst this
  refine set_same ?_
  unfold mapC
  rw [List.getElem?_map, h2]; rfl
/-- What some members answer in a truth. -/
def ansF (t : List Int) : List Int → List Int → List Int
  | [], a => a
  | m :: ms, a => ansF t ms (a.set m.toNat (t.getD m.toNat 0))
theorem ansF_len (t : List Int) : ∀ (ms a : List Int), (ansF t ms a).length = a.length
  | [], _ => rfl
  | m :: ms, a => by unfold ansF; rw [ansF_len t ms]; simp
def decF : List (List Int × Int) → List (List Int × Int) → Bool
  | _, [] => true
  | es, (a, o) :: r => match lkA a es 0 with
    | some (_, k) => if k = o then decF es r else false
    | none => decF (es ++ [(a, o)]) r
section
variable {ms t : List Int} {v : AV} {T8 T9 : Nat} {o : Int}
theorem dec_inner (hms : ∀ x ∈ ms, 0 ≤ x ∧ x < 40) (hn : ms.length < 2 ^ 62) (ht : t.length = 40) {H : List Blk} {M0 : List Blk} (hA : ∀ H' : List Blk, H'.take M0.length = M0 → Arr .i64 H' v ms) (h8 : H[T8]? = some (.cells (rs (ints .u8 (t ++ [o]))) ty_tally_told 0)) (h9 : T9 < H.length) (h89 : T8 ≠ T9) (hM : H.take M0.length = M0) (hM9 : M0.length ≤ T9) {mp sb tv tn ti : AV} :
    ∀ (k j : Nat) (acc : List Int) (s : St), j + k = ms.length → acc.length = 40 → ekeep [1, 5, 6, 8, 9, 15, 16, 17, 21, 22, 23] s.env = [(1, v), (5, mp), (6, sb), (8, .own T8 0 0), (9, .own T9 0 0), (15, tv), (16, tn), (17, ti), (21, v), (22, i64 ms.length), (23, i64 j)] →
      s.m.h = H.set T9 (.cells (rs (ints .u8 acc)) ty_tally_truth 0) → (∀ x ∈ s.m.wr, M0.length ≤ x) → s.defs = [] →
      ∃ s', Loop C [1, 5, 6, 8, 9, 15, 16, 17, 21, 22, 23] l_tally_decide_0 s (.exit 2) s' ∧ s'.m.h = H.set T9 (.cells (rs (ints .u8 (ansF t (ms.drop j) acc))) ty_tally_truth 0) ∧ (∀ x ∈ s'.m.wr, M0.length ≤ x) ∧ s'.defs = [] ∧
        ekeep [1, 5, 6, 8, 9, 15, 16, 17] s'.env = [(1, v), (5, mp), (6, sb), (8, .own T8 0 0), (9, .own T9 0 0), (15, tv), (16, tn), (17, ti)] := by
  intro k
  induction k with
  | zero =>
    intro j acc s hj hacc he hm hw hd
    have e0 : ((j : Int) < (ms.length : Int)) = False := eq_false (by omega)
    have : ms.drop j = [] := List.drop_eq_nil_of_le (by omega)
    rw [this]
    exact ⟨_, .stop (.of fun K => by rw [he]; simp [l_tally_decide_0, e0]; rfl) (by simp), by simp [hm, ansF], by simpa using hw, by simp [hd], by simp⟩
  | succ k ih =>
    intro j acc s hj hacc he hm hw hd
    obtain ⟨M, hMM⟩ : ∃ M, M = s.m := ⟨_, rfl⟩
    obtain ⟨h, w⟩ := M
    rw [← hMM] at hm hw
    simp only at hm hw
    have e0 : ((j : Int) < (ms.length : Int)) = True := eq_true (by omega)
    have w1 : IntKind.wrap .i64 ((j : Int) + 1) = j + 1 := by rw [w64] <;> omega
    have hjl : j < ms.length := by omega
    obtain ⟨a, ha, hld⟩ := (hA (H.set T9 (.cells (rs (ints .u8 acc)) ty_tally_truth 0)) (by rw [List.take_set_of_le hM9]; exact hM)).el j hjl
    have hld := hld w
    rw [getD_get hjl] at hld
    obtain ⟨x, hx⟩ : ∃ x, x = ms[j] := ⟨_, rfl⟩
    have hxr := hms ms[j] (List.getElem_mem hjl)
    rw [← hx] at hld hxr
    have e1 : (0 ≤ x) = True := eq_true hxr.1
    have e2 : (x < 40) = True := eq_true hxr.2
    have hdrop : ms.drop j = x :: ms.drop (j + 1) := by rw [hx]; exact List.drop_eq_getElem_cons hjl
    have g8 : (H.set T9 (.cells (rs (ints .u8 acc)) ty_tally_truth 0))[T8]? = some (.cells (rs (ints .u8 (t ++ [o]))) ty_tally_told 0) := by rw [List.getElem?_set_ne (by omega)]; exact h8
    have g9 : (H.set T9 (.cells (rs (ints .u8 acc)) ty_tally_truth 0))[T9]? = some (.cells (rs (ints .u8 acc)) ty_tally_truth 0) := List.getElem?_set_self h9
    have hl8 : (rs (ints .u8 (t ++ [o]))).length = 41 := by rw [rs_len, ints_len]; simp [ht]
    have hl9 : (rs (ints .u8 acc)).length = 40 := by rw [rs_len, ints_len, hacc]
    have hxn : x.toNat < 40 := by omega
    have t8 := take_one_ints (k := .u8) (l := t ++ [o]) (j := x.toNat) (by simp; omega)
    have hg8 : (t ++ [o]).getD x.toNat 0 = t.getD x.toNat 0 := by
      rw [getD_get (by simp; omega), getD_get (by omega), List.getElem_append_left]
    rw [hg8] at t8
    obtain ⟨y, hy⟩ : ∃ y, y = t.getD x.toNat 0 := ⟨_, rfl⟩
    rw [← hy] at t8
    have p9 := put_ints (k := .u8) (l := acc) (j := x.toNat) (by omega) y
    have o8 : (x.toNat + 1 ≤ 41) = True := eq_true (by omega)
    have o9 : (x.toNat + 1 ≤ 40) = True := eq_true (by omega)
    obtain ⟨s', h1, h2, h3, h4, h5⟩ := ih (j + 1) (acc.set x.toNat y) { s with env := [(1, v), (5, mp), (6, sb), (8, .own T8 0 0), (9, .own T9 0 0), (15, tv), (16, tn), (17, ti), (21, v), (22, i64 ms.length), (23, i64 (j + 1 : Nat))], m := { h := H.set T9 (.cells (rs (ints .u8 (acc.set x.toNat y))) ty_tally_truth 0), wr := T9 :: w } } (by omega) (by simp [hacc]) (by simp) rfl (by
      intro z hz
      rcases List.mem_cons.1 hz with rfl | hz
      · exact hM9
      · exact hw z hz) hd
    have hans : ansF t (ms.drop j) acc = ansF t (ms.drop (j + 1)) (acc.set x.toNat y) := by rw [hdrop, hy]; rfl
    obtain ⟨I8, hI8⟩ : ∃ I, I = ints .u8 (t ++ [o]) := ⟨_, rfl⟩
    obtain ⟨I9, hI9⟩ : ∃ I, I = ints .u8 acc := ⟨_, rfl⟩
    obtain ⟨I2, hI2⟩ : ∃ I, I = ints .u8 (acc.set x.toNat y) := ⟨_, rfl⟩
    rw [← hI8] at g8 hl8 t8
    rw [← hI9] at hm g8 g9 hl9 p9 hld
    rw [← hI2] at p9 h1
    refine ⟨s', .more (.of fun K => ?_) h1, by rw [hans]; exact h2, h3, h4, h5⟩
    rw [he]
    simp [l_tally_decide_0, ← hMM, hm, e0, e1, e2, w1, ha, hld, g8, g9, hl8, hl9, o8, o9, t8, p9]
end
end Go.AM.T
