/- The machine that the proofs walk by, and what the functions compute: part 6 of the common texts. No condition. (Own work.) -/
import Derived.Test.YthiiejahphkgnaaAQ5
set_option linter.unusedVariables false
set_option linter.unusedSimpArgs false
/- What the functions compute (own work). -/
namespace Go.AM.T
open Go Go.AM
attribute [local simp] so_mov so_pick so_alloc so_box so_build so_slit so_load so_store so_nilc so_bin so_beq so_eqs so_eqn so_eqnl so_not so_conv so_s2b so_mkfn so_slcA so_padd so_fld so_idxA so_idxV so_idxT so_look so_mupd so_mkmap so_mksl so_ext so_app so_lenT so_lenM so_min so_max so_cpy so_clr so_mkif so_tass so_lenS so_idxS so_slc
attribute [local simp] dn_skip dn_label dn_ret dn_exit dn_scope dn_keep dn_reg dn_draw0 noSlots denE denEI stepE  sd_mov sd_pick sd_build sd_load sd_store sd_nilc sd_bin sd_beq sd_eqs sd_eqn sd_eqnl sd_not sd_conv sd_s2b sd_mkfn sd_slc sd_slcA sd_padd sd_fld sd_idxS sd_idxA sd_idxV sd_idxT sd_look sd_mupd sd_ext sd_app sd_lenS sd_lenT sd_lenM sd_min sd_max sd_mkif sd_tass sd_call sd_slit dn_seq dn_cond dn_block dn_loop kn_call denIs denI denOp wants ev eget putD binL enumFrom AV.bool? AV.int? ekeep evs evp runV fin runDefs resAll resOf tupOf unit AV.cells okV ok1 Value.oneCell' fill setN rcells rs_nil rs_cons load_own load_cons mkAgg_rs storeN jmpOut
attribute [local simp] dvL dv1t dvAt mkAgg2 dv0 dv1 dv2 dv3 dv4 dv5 dv6 dv7 dv8 dv9 dv10 dvA dvN dvAll C_fz fzr
def Beg (H : List Blk) (u : List Int) (x : AV) : Prop := (∃ v, x = .r v ∧ Sl (ints .u8 u) u.length v) ∨ ∃ B g, x = .osl B g 0 u.length 1 none ∧ H[B]? = some (.cells (rs (ints .u8 u)) ty_uint8 g)
theorem Beg.len {H : List Blk} {u : List Int} {x : AV} (h : Beg H u x) : lenOf x = some u.length := by
  rcases h with ⟨v, rfl, hv⟩ | ⟨B, g, rfl, _⟩
  · exact hv.len
  · rfl
theorem Beg.cells {H : List Blk} {u : List Int} {x : AV} (h : Beg H u x) (W : List Nat) : slCells { h := H, wr := W } x 1 = some (rs (ints .u8 u), u.length) := by
  rcases h with ⟨v, rfl, hv⟩ | ⟨B, g, rfl, hB⟩
  · exact hv.cells (by rw [ints_len]; omega) _
  · simp only [slCells, rcells, hB, if_true]
    rw [if_pos ⟨trivial, by rw [rs_len, ints_len]; omega⟩, List.drop_zero, List.take_of_length_le (by rw [rs_len, ints_len]; omega)]
theorem Beg.keep {H H' : List Blk} {u : List Int} {x : AV} (h : Beg H u x) (hk : ∀ j, j < H.length → H'[j]? = H[j]?) : Beg H' u x := by
  rcases h with h | ⟨B, g, rfl, hB⟩
  · exact .inl h
  · exact .inr ⟨B, g, rfl, by rw [hk B (getElem?_lt hB)]; exact hB⟩
/-- A truth that is begun, and one vote more. -/
theorem Beg.app {H : List Blk} {u : List Int} {x : AV} (h : Beg H u x) (hu : u.length ≤ 40) (v : Int) {L : Nat} (hL : L < H.length) :
    ∃ x8 H8 W9 g, appendA { h := H } ty_uint8 1 1 (.r (.sl [] 0 (some 0))) x = some (x8, { h := H8 }) ∧ H.length ≤ H8.length ∧
      appendA { h := H8 } ty_uint8 1 1 x8 (.r (.sl [.lit (.int .u8 v)] 1 (some 1))) = some (.osl H.length g 0 (u.length + 1) 1 none, { h := H ++ [.cells (rs (ints .u8 (u ++ [v]))) ty_uint8 g], wr := W9 }) ∧ (∀ y ∈ W9, y = H.length) ∧
      apartL (wrAll H.length { h := H8 }) [L] = true ∧ apartL (wrAll H8.length { h := H ++ [.cells (rs (ints .u8 (u ++ [v]))) ty_uint8 g], wr := W9 }) [L] = true := by
  have hc := h.cells []
  have hne : ∀ y : Nat, H.length ≤ y → ([L] : List Nat).contains y = false := fun y hy => by simp; omega
  by_cases e : u = []
  · subst e
    refine ⟨.r (.sl [] 0 (some 0)), H, [], 0, by unfold appendA; rw [hc]; simp, Nat.le_refl _, ?_, by simp, ?_, ?_⟩
    · simp [appendA, slCells, roomOk, ints, rs]
    · rw [wrAll_self]; rfl
    · unfold apartL wrAll
      rw [List.all_eq_true]
      intro y hy
      simp at hy
      subst hy
      rw [hne _ (Nat.le_refl _)]; rfl
  · have hl : 0 < u.length := List.length_pos_iff.2 e
    refine ⟨.osl H.length 0 0 u.length 1 none, H ++ [.cells (rs (ints .u8 u)) ty_uint8 0], [H.length], 1, ?_, by simp, ?_, by simp, ?_, ?_⟩
    · unfold appendA
      rw [hc]
      simp only
      rw [if_neg (by omega), if_pos ⟨by omega, rfl, by simp [roomOk]; omega⟩]
      simp [rs]
    · have hg : (H ++ [Blk.cells (rs (ints .u8 u)) ty_uint8 0])[H.length]? = some (.cells (rs (ints .u8 u)) ty_uint8 0) := by simp
      unfold appendA
      simp only [slCells, List.length_cons, List.length_nil, Nat.zero_add, if_true, hg, Nat.one_mul]
      rw [if_pos ⟨trivial, trivial, trivial, by rw [rs_len, ints_len]; omega, by simp [roomOk]; omega⟩, if_neg (by omega)]
      rw [List.take_of_length_le (by rw [rs_len, ints_len]; omega)]
      simp [ints, rs]
    · unfold apartL wrAll
      rw [List.all_eq_true]
      intro y hy
      simp at hy
      subst hy
      rw [hne _ (Nat.le_refl _)]; rfl
    · unfold apartL wrAll
      rw [List.all_eq_true]
      intro y hy
      simp at hy
      subst hy
      rw [hne _ (Nat.le_refl _)]; rfl
theorem settle_none {F : Nat} {m m1 : Mem} {v : AV} (h : fz m1 m.h.length F v = none) : Go.AM.settle F false m v m1 = (v, { h := m1.h, wr := oldWr m.h.length m1.wr ++ m.wr }) := by
  unfold Go.AM.settle
  simp only [Bool.false_eq_true, if_false, h]

section
variable {d : Div} {a0 a1 n0 n1 p q : RV}
theorem refTruths_leaf {u : List Int} (hu : (u.length : Int) = d.n) {x : AV} (m : Mem) (h : Beg m.h u x) :
    ∃ v X, CallR C (fnv fn_ref07_Truths) [.r (.agg (divC d a0 a1 n0 n1 p q)), x] m (.ret v { h := m.h ++ X, wr := m.wr }) ∧ ∀ W, slCells { h := m.h ++ X, wr := W } v 1 = some ([x], 1) := by
  have hd11 : (divC d a0 a1 n0 n1 p q).length = 11 := rfl
  have hl := h.len
  have e1 : ((u.length : Int) == d.n) = true := by simpa using hu
  obtain ⟨H, hH⟩ : ∃ H, H = m.h ++ [.cells (rs (divC d a0 a1 n0 n1 p q)) ty_ref07_Division 0] := ⟨_, rfl⟩
  have hc : H[m.h.length]? = some (.cells (rs (divC d a0 a1 n0 n1 p q)) ty_ref07_Division 0) := by simp [hH]
  rcases h with ⟨v, rfl, hv⟩ | ⟨B, g, rfl, hB⟩
  · have hok : okV (.r v) = true ∧ AV.cells (.r v) = [.r v] := by
      rcases hv with ⟨_, _, rfl⟩ | ⟨c, rfl⟩ <;> exact ⟨rfl, rfl⟩
    refine ⟨.r (.sl [v] 1 (some 1)), [], ?_, fun W => by simp [slCells, rs]⟩
    have hr : CallR C (fnv fn_ref07_Truths) [.r (.agg (divC d a0 a1 n0 n1 p q)), .r v] m (.ret (.r (.sl [v] 1 (some 1))) m) :=
      CallR.eval (m1 := { h := H, wr := [] }) rfl rfl prog_ref07_Truths rfl ⟨0, fun k hk => by
        rcases hv with ⟨_, _, rfl⟩ | ⟨c, rfl⟩ <;> simp [a_ref07_Truths, ← hH, hc, hd11, hl, e1, allR, AV.toR, repl]⟩ (by simp [hH]) (by simp)
    simpa using hr
  · have hBl := getElem?_lt hB
    refine ⟨.osl (m.h.length + 1) 0 0 1 1 (some 1), [.cells (rs (divC d a0 a1 n0 n1 p q)) ty_ref07_Division 0, .cells [.osl B g 0 u.length 1 none] ty_Suint8 0], ?_, fun W => ?_⟩
    · refine CallR.fnR (CallR.evalW (m1 := { h := m.h ++ [.cells (rs (divC d a0 a1 n0 n1 p q)) ty_ref07_Division 0, .cells [.osl B g 0 u.length 1 none] ty_Suint8 0], wr := [] }) (v := .osl (m.h.length + 1) 0 0 1 1 (some 1)) rfl prog_ref07_Truths rfl ⟨0, fun k hk => ?_⟩ ?_)
      · have hlH : H.length = m.h.length + 1 := by simp [hH]
        have hHH : m.h ++ [.cells (rs (divC d a0 a1 n0 n1 p q)) ty_ref07_Division 0, .cells [.osl B g 0 u.length 1 none] ty_Suint8 0] = H ++ [.cells [.osl B g 0 u.length 1 none] ty_Suint8 0] := by simp [hH]
        rw [hHH, ← hlH]
        simp [runK, finK, a_ref07_Truths, ← hH, hc, hd11, hl, e1, allR, AV.toR, repl]
      · rw [show C.keepAll fn_ref07_Truths = false from rfl, settle_none]
        · rfl
        · rw [C_fz, fz]
          simp [rcells, fzs, fz, allR, AV.toR, hBl]
    · simp [slCells, rcells]
/-- What a call of Truths comes to. -/
def RT (d : Div) (x : AV) (r : Nat) (u : List Int) (m : Mem) (f : AV → List Blk → Prop) : Prop :=
  ∃ v X xs, f v X ∧ (∀ W, slCells { h := m.h ++ X, wr := W } v 1 = some (xs, xs.length)) ∧ All2 (fun y u' => (∃ v, y = .r v ∧ Sl (ints .u8 u') u'.length v) ∨ (y = x ∧ u' = u)) xs (rtF d r u) ∧
    (0 < r → X = [] ∧ ∃ vs, v = .r (.sl vs (rtF d r u).length none) ∧ SlT vs (rtF d r u))
theorem SlT.elts {H : List Blk} {L : Nat} {vs : List RV} {us : List (List Int)} (h : SlT vs us) : All2 (Elt H L) (rs vs) us := by
  unfold rs
  exact All2.mapL h fun v u hv => .inl ⟨v, rfl, hv⟩
end
end Go.AM.T
/- What the functions compute (own work). -/
namespace Go.AM.T
open Go Go.AM
attribute [local simp] so_mov so_pick so_alloc so_box so_build so_slit so_load so_store so_nilc so_bin so_beq so_eqs so_eqn so_eqnl so_not so_conv so_s2b so_mkfn so_slcA so_padd so_fld so_idxA so_idxV so_idxT so_look so_mupd so_mkmap so_mksl so_ext so_app so_lenT so_lenM so_min so_max so_cpy so_clr so_mkif so_tass so_lenS so_idxS so_slc
attribute [local simp] dn_skip dn_label dn_ret dn_exit dn_scope dn_keep dn_reg dn_draw0 noSlots denE denEI stepE  sd_mov sd_pick sd_build sd_load sd_store sd_nilc sd_bin sd_beq sd_eqs sd_eqn sd_eqnl sd_not sd_conv sd_s2b sd_mkfn sd_slc sd_slcA sd_padd sd_fld sd_idxS sd_idxA sd_idxV sd_idxT sd_look sd_mupd sd_ext sd_app sd_lenS sd_lenT sd_lenM sd_min sd_max sd_mkif sd_tass sd_call sd_slit dn_seq dn_cond dn_block dn_loop kn_call denIs denI denOp wants ev eget putD binL enumFrom AV.bool? AV.int? ekeep evs evp runV fin runDefs resAll resOf tupOf unit AV.cells okV ok1 Value.oneCell' fill setN rcells rs_nil rs_cons load_own load_cons mkAgg_rs storeN jmpOut
attribute [local simp] dvL dv1t dvAt mkAgg2 dv0 dv1 dv2 dv3 dv4 dv5 dv6 dv7 dv8 dv9 dv10 dvA dvN dvAll C_fz fzr
section
variable {d : Div} {a0 a1 n0 n1 p q : RV}
/-- Part of a heap stays. -/
theorem Elt.keep {H H' : List Blk} {L : Nat} {x : AV} {u : List Int} (h : Elt H L x u) (hk : ∀ j cs g, L ≤ j → H[j]? = some (.cells cs ty_uint8 g) → H'[j]? = some (.cells cs ty_uint8 g)) : Elt H' L x u := by
  rcases h with h | ⟨B, g, h1, h2, h3⟩
  · exact .inl h
  · exact .inr ⟨B, g, h1, h2, hk _ _ _ h1 h3⟩
theorem refTruths_inner (hs : DivS d a0 a1 n0 n1 p q) (hb : Small d) (hn : 1 ≤ d.n ∧ d.n ≤ 40) (hne : ∀ k : Nat, (k : Int) < d.n → may d k ≠ []) :
    ∀ (r : Nat) (u : List Int), u.length + r = d.n.toNat → (rtF d r u).length ≤ 10000 → ∀ (x : AV) (m : Mem), Beg m.h u x →
      RT d x r u m fun v X => CallR C (fnv fn_ref07_Truths) [.r (.agg (divC d a0 a1 n0 n1 p q)), x] m (.ret v { h := m.h ++ X, wr := m.wr }) := by
  intro r
  induction r with
  | zero =>
    intro u hu _ x m hx
    obtain ⟨v, X, h1, h2⟩ := refTruths_leaf (a0 := a0) (a1 := a1) (n0 := n0) (n1 := n1) (p := p) (q := q) (d := d) (by omega) m hx
    exact ⟨v, X, [x], h1, h2, .cons (.inr ⟨rfl, rfl⟩) .nil, fun h => absurd h (by omega)⟩
  | succ r ih =>
    intro u hu hcnt x m hx
    have hd11 : (divC d a0 a1 n0 n1 p q).length = 11 := rfl
    have hl := hx.len
    have hul : u.length ≤ 40 := by omega
    obtain ⟨tr, htr⟩ : ∃ tr : Int → List (List Int), tr = fun v => rtF d r (u ++ [v]) := ⟨_, rfl⟩
    have hall : rtF d (r + 1) u = (may d u.length).flatMap tr := by rw [htr]; rfl
    obtain ⟨pre, hpre⟩ : ∃ pre : Nat → List (List Int), pre = fun i => ((([0, 1, 2] : List Int).take i).filter fun v => decide (v ∈ may d u.length)).flatMap tr := ⟨_, rfl⟩
    have hpre3 : pre 3 = rtF d (r + 1) u := by rw [hpre, hall]; show (([0, 1, 2] : List Int).filter _).flatMap tr = _; rw [may_filter]
    obtain ⟨H0, hH0⟩ : ∃ H, H = m.h ++ [.cells (rs (divC d a0 a1 n0 n1 p q)) ty_ref07_Division 0] := ⟨_, rfl⟩
    have e1 : ((u.length : Int) == d.n) = false := by simp; omega
    have key := Loop.run (C := C) (c := l_ref07_Truths_0) (live := [1, 2, 5, 6]) (fun k s => ∃ (i : Nat) (H : List Blk) (W : List Nat) (o : AV) (xs : List AV), i + k = 3 ∧
        At1 [1, 2, 5, 6] [(1, x), (2, .own m.h.length 0 0), (5, o), (6, i64 i)] { h := H, wr := W } s ∧ GA H (m.h.length + 1) ty_Suint8 xs o ∧ All2 (Elt H (m.h.length + 1)) xs (pre i) ∧
        H[m.h.length]? = some (.cells (rs (divC d a0 a1 n0 n1 p q)) ty_ref07_Division 0) ∧ H.take m.h.length = m.h ∧ ∀ y ∈ W, m.h.length ≤ y)
      (fun o s => ∃ (H : List Blk) (W : List Nat) (w : AV) (xs : List AV), o = .exit 0 ∧ s.m = { h := H, wr := W } ∧ s.defs = [] ∧ eget s.env 5 = w ∧ GA H (m.h.length + 1) ty_Suint8 xs w ∧ All2 (Elt H (m.h.length + 1)) xs (pre 3) ∧ H.take m.h.length = m.h ∧ ∀ y ∈ W, m.h.length ≤ y) (by
      rintro k s ⟨i, H, W, o, xs, hik, ⟨he, hm, hd, hr⟩, hG, hE, hc, ht, hw⟩
      rw [he]
      cases k with
      | zero =>
        have hi : i = 3 := by omega
        subst hi
        exact ⟨.exit 0, _, .of fun K => by simp [l_ref07_Truths_0]; rfl, .inr ⟨by simp, H, W, o, xs, rfl, by simp [hm], by simp [hd], by simp, hG, hE, ht, hw⟩⟩
      | succ k =>
        have e2 : ((i : Int) < 3) = True := eq_true (by omega)
        have w1 : IntKind.wrap .i64 ((i : Int) + 1) = i + 1 := by rw [w64] <;> omega
        have w8 : IntKind.wrap .u8 (i : Int) = i := by rw [wu8] <;> omega
        have hLH : m.h.length < H.length := getElem?_lt hc
        obtain ⟨c1, k1⟩ := refMay_spec hs hb u.length i (by omega) { h := H, wr := W }
        have hi3 : ([0, 1, 2] : List Int).take (i + 1) = ([0, 1, 2] : List Int).take i ++ [(i : Int)] := by
          have : i = 0 ∨ i = 1 ∨ i = 2 := by omega
          rcases this with rfl | rfl | rfl <;> rfl
        cases e3 : decide ((i : Int) ∈ may d u.length) with
        | false =>
          rw [e3] at k1
          refine ⟨.norm, _, .ofN ⟨c1, fun n hn' => by simp [l_ref07_Truths_0, e2, hm, hc, hd11, hl, w8, k1 n hn', w1]; rfl⟩, .inl ⟨rfl, k, by omega, i + 1, H, W, o, xs, by omega, ⟨by simp, by simp, by simp [hd], by simp [hr]⟩, hG, ?_, hc, ht, hw⟩⟩
          rw [hpre] at hE ⊢
          simp only at hE ⊢
          rw [hi3, List.filter_append, show List.filter (fun v => decide (v ∈ may d u.length)) [(i : Int)] = [] by rw [List.filter_cons, e3]; rfl, List.append_nil]
          exact hE
        | true =>
          rw [e3] at k1
          have hmem : (i : Int) ∈ may d u.length := by simpa using e3
          have hpi : pre (i + 1) = pre i ++ tr i := by
            rw [hpre]
            simp only
            rw [hi3, List.filter_append, List.flatMap_append]
            congr 1
            rw [List.filter_cons, e3]; simp
          have hxH : Beg H u x := hx.keep fun j hj => by rw [← List.getElem?_take_of_lt (l := H) hj, ht]
          obtain ⟨x8, H8, W9, g, A1, l8, A2, hW9, P1, P2⟩ := hxH.app hul (i : Int) hLH
          obtain ⟨H9, hH9⟩ : ∃ H9, H9 = H ++ [.cells (rs (ints .u8 (u ++ [(i : Int)]))) ty_uint8 g] := ⟨_, rfl⟩
          rw [← hH9] at A2 P2
          have l9 : H9.length = H.length + 1 := by simp [hH9]
          have g9 : H9[H.length]? = some (.cells (rs (ints .u8 (u ++ [(i : Int)]))) ty_uint8 g) := by simp [hH9]
          have hsub : (tr i).length ≤ 10000 := by
            have := flatMap_mem_len tr _ _ hmem
            rw [← hall] at this
            exact Nat.le_trans this hcnt
          obtain ⟨v, X, ys, ⟨c2, k2⟩, hsl, hys, -⟩ := ih (u ++ [(i : Int)]) (by simp; omega) (by rw [htr] at hsub; exact hsub) (.osl H.length g 0 (u.length + 1) 1 none) { h := H9 } (.inr ⟨H.length, g, by simp, g9⟩)
          have htri : rtF d r (u ++ [(i : Int)]) = tr i := by rw [htr]
          rw [htri] at hys
          have hylen := hys.length
          have hxlen := hE.length
          have hpl : (pre i).length + (tr i).length ≤ 10000 := by
            have h3 : (pre (i + 1)).length ≤ (pre 3).length := by
              rw [hpre]
              simp only
              have : ([0, 1, 2] : List Int).take 3 = ([0, 1, 2] : List Int).take (i + 1) ++ ([0, 1, 2] : List Int).drop (i + 1) := by rw [List.take_append_drop]; rfl
              rw [this, List.filter_append, List.flatMap_append, List.length_append]
              omega
            rw [hpi, List.length_append, hpre3] at h3
            omega
          have hyne : 0 < ys.length := by
            rw [hylen, ← htri]
            exact List.length_pos_iff.2 (rtF_ne r _ fun k hk => hne k (by simp at hk; omega))
          have hGk : GA (H9 ++ X) (m.h.length + 1) ty_Suint8 xs o := by
            cases hG with
            | nil e => exact .nil e
            | osl B g' q1 q2 q3 =>
              have := getElem?_lt q2
              exact .osl B g' q1 (by rw [List.getElem?_append_left (by omega), hH9, List.getElem?_append_left this]; exact q2) q3
          obtain ⟨B, g', H', W', A3, hW', hB, hG', hK⟩ := hGk.app (W := []) (bytes := 24) (by simp; omega) (hsl []) hyne ⟨by omega, by omega⟩
          have hkeep : ∀ (j : Nat) (cs : List AV) (T : TypeId) (g2 : Nat), T ≠ ty_Suint8 → (H9 ++ X)[j]? = some (Blk.cells cs T g2) → H'[j]? = some (.cells cs T g2) := by
            intro j cs T g2 hT hj
            rcases hK with rfl | ⟨rfl, g3, q2, _⟩
            · rw [List.getElem?_append_left (getElem?_lt hj)]; exact hj
            · rw [List.getElem?_set_ne]
              · exact hj
              · rintro rfl
                rw [q2] at hj
                cases hj; exact hT rfl
          have hkH : ∀ (j : Nat) (cs : List AV) (T : TypeId) (g2 : Nat), T ≠ ty_Suint8 → H[j]? = some (.cells cs T g2) → H'[j]? = some (.cells cs T g2) := fun j cs T g2 hT hj =>
            hkeep j cs T g2 hT (by have := getElem?_lt hj; rw [List.getElem?_append_left (by omega), hH9, List.getElem?_append_left this]; exact hj)
          have hne1 : ty_uint8 ≠ ty_Suint8 := by decide
          have hne2 : ty_ref07_Division ≠ ty_Suint8 := by decide
          have hl9' : (u ++ [(i : Int)]).length = u.length + 1 := by simp
          refine ⟨.norm, _, .ofN ⟨c1 + c2, fun n hn' => by
            have k1 := k1 n (by omega)
            have k2 := k2 n (by omega)
            simp [l_ref07_Truths_0, dn_drawF, denF, denFI, stepF, slotFree, slotOf, foot, avIdx, pairsOk, apartL_nil, wrAll_self, P1, P2, e2, hm, hc, hd11, hl, w8, k1, w1, allR, AV.toR, repl, A1, A2, k2, A3]
            rfl⟩, .inl ⟨rfl, k, by omega, i + 1, H', _, _, xs ++ ys, by omega, ⟨rfl, rfl, by simp [hd], by simp [hr]⟩, hG', ?_, hkH _ _ _ _ hne2 hc, ?_, ?_⟩⟩
          · rw [hpi]
            refine (hE.mono fun y u' h => h.keep fun j cs g2 _ hj => hkH j cs _ g2 hne1 hj).append (hys.mono fun y u' h => ?_)
            rcases h with h | ⟨rfl, rfl⟩
            · exact .inl h
            · exact .inr ⟨H.length, g, by omega, by simp, hkeep _ _ _ _ hne1 (by rw [List.getElem?_append_left (by omega)]; exact g9)⟩
          · have ht9 : (H9 ++ X).take m.h.length = m.h := by rw [List.take_append_of_le_length (by omega), hH9, List.take_append_of_le_length (by omega)]; exact ht
            rcases hK with rfl | ⟨rfl, g3, q2, _⟩
            · rw [List.take_append_of_le_length (by simp; omega)]; exact ht9
            · rw [List.take_set_of_le (by omega)]; exact ht9
          · intro y hy
            simp only [List.mem_append, List.mem_cons, List.not_mem_nil, or_false, false_or] at hy
            rcases hW' with rfl | rfl
            · rcases hy with hy | hy | hy
              · cases hy
              · have := hW9 y hy; omega
              · exact hw y hy
            · rcases hy with hy | hy | hy
              · simp at hy; omega
              · have := hW9 y hy; omega
              · exact hw y hy)
    have hc0 : H0[m.h.length]? = some (.cells (rs (divC d a0 a1 n0 n1 p q)) ty_ref07_Division 0) := by simp [hH0]
    obtain ⟨o, s, h1, h2, H, W, w, xs, rfl, h3, h4, h5, h6, h7, h8, h9⟩ := key 3 { env := [(6, i64 0), (5, .r .nil), (1, x), (2, .own m.h.length 0 0), (11, bo false)], m := { h := H0 } } ⟨0, H0, [], .r .nil, [], rfl, ⟨by simp, rfl, rfl, rfl⟩, .nil rfl, by rw [hpre]; exact .nil, hc0, by simp [hH0], by simp⟩
    obtain ⟨c0, h1⟩ := h1.get
    rw [hpre3] at h7
    have hnn : rtF d (r + 1) u ≠ [] := rtF_ne _ _ fun k hk => hne k (by omega)
    have hGw : GA H m.h.length ty_Suint8 xs w := by
      cases h6 with
      | nil e => exact .nil e
      | osl B g' q1 q2 q3 => exact .osl B g' (by omega) q2 q3
    have hEw : All2 (Elt H m.h.length) xs (rtF d (r + 1) u) := h7.mono fun y u' h => by
      rcases h with h | ⟨B, g, q1, q2, q3⟩
      · exact .inl h
      · exact .inr ⟨B, g, by omega, q2, q3⟩
    have hxl := h7.length
    obtain ⟨vs, hz, hvs⟩ := hGw.fz (W := W) hEw (fun u' hu' => by have := rtF_len _ _ _ hu'; omega) hnn (k := 1000000) (by omega)
    have hvl := hvs.length
    refine ⟨.r (.sl vs (rtF d (r + 1) u).length none), [], rs vs, ?_, fun W => ?_, hvs.mapL fun v u' hv => .inl ⟨v, rfl, hv⟩, fun _ => ⟨rfl, vs, rfl, hvs⟩⟩
    · have := CallR.eval (C := C) (f := fn_ref07_Truths) (a := []) (b := []) (args := [.r (.agg (divC d a0 a1 n0 n1 p q)), x]) (m := m) (v := .r (.sl vs (rtF d (r + 1) u).length none)) (m1 := { h := H, wr := W }) rfl rfl prog_ref07_Truths rfl ⟨c0, fun k hk => by
        simp [a_ref07_Truths, ← hH0, hc0, hd11, hl, e1, h1 k hk, h3, h4, h5, hz]⟩ h8 h9
      simpa using this
    · simp only [slCells]
      rw [if_pos (by omega), rs_len, hvl]
/-- The reference's truths. -/
theorem refTruths_spec (hs : DivS d a0 a1 n0 n1 p q) (hb : Small d) (ho : openI d = 0) (m : Mem) :
    ∃ vs, CallR C (fnv fn_ref07_Truths) [.r (.agg (divC d a0 a1 n0 n1 p q)), .r .nil] m (.ret (.r (.sl vs (rtOf d).length none)) m) ∧ SlT vs (rtOf d) := by
  obtain ⟨hr, hcl, hd⟩ := openI0 ho
  have hn := right_n hr
  have hne : ∀ k : Nat, (k : Int) < d.n → may d k ≠ [] := fun k hk e => by
    have : bothB d k = true := by rw [← may_nil]; simp [e]
    unfold clashB at hcl
    rw [List.find?_eq_none] at hcl
    exact hcl k (by simp; omega) this
  obtain ⟨v, X, xs, h1, h2, h3, h4⟩ := refTruths_inner hs hb hn hne d.n.toNat [] (by simp) (by have := rtOf_count hd; unfold rtOf at this; omega) (.r .nil) m (.inl ⟨_, rfl, Sl.nil⟩)
  obtain ⟨rfl, vs, rfl, h5⟩ := h4 (by omega)
  refine ⟨vs, ?_, h5⟩
  have h6 := h1
  simp only [List.append_nil] at h6
  exact h6
end
end Go.AM.T
/- What the functions compute (own work). -/
namespace Go.AM.T
open Go Go.AM
attribute [local simp] so_mov so_pick so_alloc so_box so_build so_slit so_load so_store so_nilc so_bin so_beq so_eqs so_eqn so_eqnl so_not so_conv so_s2b so_mkfn so_slcA so_padd so_fld so_idxA so_idxV so_idxT so_look so_mupd so_mkmap so_mksl so_ext so_app so_lenT so_lenM so_min so_max so_cpy so_clr so_mkif so_tass so_lenS so_idxS so_slc
attribute [local simp] dn_skip dn_label dn_ret dn_exit dn_scope dn_keep dn_reg dn_draw0 noSlots denE denEI stepE  sd_mov sd_pick sd_build sd_load sd_store sd_nilc sd_bin sd_beq sd_eqs sd_eqn sd_eqnl sd_not sd_conv sd_s2b sd_mkfn sd_slc sd_slcA sd_padd sd_fld sd_idxS sd_idxA sd_idxV sd_idxT sd_look sd_mupd sd_ext sd_app sd_lenS sd_lenT sd_lenM sd_min sd_max sd_mkif sd_tass sd_call sd_slit dn_seq dn_cond dn_block dn_loop kn_call denIs denI denOp wants ev eget putD binL enumFrom AV.bool? AV.int? ekeep evs evp runV fin runDefs resAll resOf tupOf unit AV.cells okV ok1 Value.oneCell' fill setN rcells rs_nil rs_cons load_own load_cons mkAgg_rs storeN jmpOut
attribute [local simp] dvL dv1t dvAt mkAgg2 dv0 dv1 dv2 dv3 dv4 dv5 dv6 dv7 dv8 dv9 dv10 dvA dvN dvAll C_fz fzr
/-- A list of numbers, as a heap has it. -/
def Arr (k : IntKind) (H : List Blk) (v : AV) (l : List Int) : Prop := Els v l.length 1 1 false H (fun i => .r (.lit (.int k (l.getD i 0))))
theorem Arr.ofSl {k : IntKind} {H : List Blk} {l : List Int} {v : RV} (h : Sl (ints k l) l.length v) : Arr k H (.r v) l :=
  ⟨h.len, fun i hi => ⟨_, h.at hi, fun wr => by rw [Nat.mul_one, load_ints hi, getD_get hi]⟩⟩
theorem Arr.osl {k : IntKind} {H : List Blk} {l : List Int} {B g : Nat} {T : TypeId} {cap : Option Nat} (hB : H[B]? = some (.cells (rs (ints k l)) T g)) : Arr k H (.osl B g 0 l.length 1 cap) l := by
  refine ⟨rfl, fun i hi => ⟨.own B g (0 + i * 1), ?_, fun wr => ?_⟩⟩
  · simp only [atOf]
    rw [if_pos ⟨by omega, by omega, trivial⟩]
    simp
  · rw [load_own]
    simp only [rcells, hB, if_true]
    have hl : (rs (ints k l)).length = l.length := by rw [rs_len, ints_len]
    rw [if_pos (by omega)]
    have : List.take 1 (List.drop (0 + i * 1) (rs (ints k l))) = [.r (.lit (.int k (l.getD i 0)))] := by
      rw [List.take_one, List.head?_drop, rs_get]
      simp [ints, hi]
    rw [this]; rfl
theorem Arr.ofGS {k : IntKind} {H : List Blk} {L : Nat} {T : TypeId} {l : List Int} {v : AV} (h : GS H L T 1 (ints k l) l.length v) : Arr k H v l := by
  cases h with
  | nil e1 e2 => exact Arr.ofSl (by rw [List.length_eq_zero_iff] at e1; subst e1; exact Sl.nil)
  | osl B g h1 h2 h3 h4 => exact Arr.osl h2
theorem IndexU_spec {l : List Int} {v : AV} {m : Mem} (hl : Arr .u8 m.h v l) (hb : l.length < 2 ^ 63) (x : Int) : CallR C (fnv fn_slices_Index_Suint8_uint8) [v, u8 x] m (.ret (i64 (idxOf l.length (fun i => l.getD i 0 == x))) m) := by
  have key := Loop.run (C := C) (c := l_slices_Index_Suint8_uint8_0) (live := [0, 1, 7, 8]) (fun k s => ∃ i : Nat, i + k = l.length ∧ At1 [0, 1, 7, 8] [(0, v), (1, u8 x), (7, i64 l.length), (8, i64 i)] { h := m.h } s ∧ ∀ j, j < i → (l.getD j 0 == x) = false)
    (fun o s => s.m = { h := m.h } ∧ s.defs = [] ∧ ((o = .ret ∧ ∃ i : Nat, eget s.env 4 = i64 i ∧ (List.range l.length).find? (fun i => l.getD i 0 == x) = some i) ∨ (o = .exit 0 ∧ (List.range l.length).find? (fun i => l.getD i 0 == x) = none))) (by
    rintro k s ⟨i, hik, ⟨he, hm, hd, hr⟩, hx⟩
    rw [he]
    cases k with
    | zero =>
      have e1 : ((i : Int) < (l.length : Int)) = False := eq_false (by omega)
      exact ⟨.exit 0, _, .of fun K => by simp [l_slices_Index_Suint8_uint8_0, e1]; rfl, .inr ⟨by simp, by simp [hm], by simp [hd], .inr ⟨rfl, find_none_of fun j hj => hx j (by omega)⟩⟩⟩
    | succ k =>
      have hi : i < l.length := by omega
      have e1 : ((i : Int) < (l.length : Int)) = True := eq_true (by omega)
      have w1 : IntKind.wrap .i64 ((i : Int) + 1) = i + 1 := by rw [w64] <;> omega
      obtain ⟨a, ha, hld⟩ := hl.el i hi
      have hld := hld []
      rw [getD_get hi] at hld
      by_cases hq : x = l[i]
      · have hq' : (x == l[i]) = true := by simpa using hq
        exact ⟨.ret, _, .of fun K => by simp [l_slices_Index_Suint8_uint8_0, e1, ha, hm, hld, hq']; rfl, .inr ⟨by simp, by simp [hm], by simp [hd], .inl ⟨rfl, i, by simp, find_some_of hi hx (by rw [getD_get hi]; simp [hq])⟩⟩⟩
      · have hq' : (x == l[i]) = false := by simpa using hq
        refine ⟨.norm, _, .of fun K => by simp [l_slices_Index_Suint8_uint8_0, e1, ha, hm, hld, hq', w1]; rfl, .inl ⟨rfl, k, by omega, i + 1, by omega, ⟨by simp, by simp [hm], by simp [hd], by simp [hr]⟩, fun j hj => ?_⟩⟩
        by_cases e : j = i
        · subst e; rw [getD_get hi]; simpa using fun h => hq h.symm
        · exact hx j (by omega))
  obtain ⟨o, s, h1, h2, h3, h4, h5⟩ := key l.length { env := [(0, v), (1, u8 x), (7, i64 l.length), (8, i64 0)], m := { h := m.h } } ⟨0, by simp, ⟨by simp, rfl, rfl, rfl⟩, by simp⟩
  obtain ⟨c0, h1⟩ := h1.get
  unfold idxOf
  rcases h5 with ⟨rfl, i, h5, h6⟩ | ⟨rfl, h6⟩ <;> rw [h6]
  · exact CallR.eval0 rfl rfl prog_slices_Index_Suint8_uint8 rfl ⟨c0, fun k hk => by simp [a_slices_Index_Suint8_uint8, hl.len, h1 k hk, h4, h5, h3]⟩
  · exact CallR.eval0 rfl rfl prog_slices_Index_Suint8_uint8 rfl ⟨c0, fun k hk => by simp [a_slices_Index_Suint8_uint8, hl.len, h1 k hk, h4, h3]⟩
theorem ContainsU_spec {l : List Int} {v : AV} {m : Mem} (hl : Arr .u8 m.h v l) (hb : l.length < 2 ^ 63) (x : Int) : CallR C (fnv fn_slices_Contains_Suint8_uint8) [v, u8 x] m (.ret (bo (l.contains x)) m) := by
  obtain ⟨c1, k1⟩ := IndexU_spec (m := { h := m.h }) hl hb x
  rw [← any_contains]
  rcases idxOf_any l.length (fun i => l.getD i 0 == x) with ⟨h1, h2⟩ | ⟨h1, h2⟩
  · rw [h2]
    have e1 := eq_true h1
    exact CallR.eval0 rfl rfl prog_slices_Contains_Suint8_uint8 rfl ⟨c1, fun k hk => by
      have := k1 k hk
      generalize idxOf l.length (fun i => l.getD i 0 == x) = z at this e1
      simp [a_slices_Contains_Suint8_uint8, this, e1]⟩
  · rw [h2]
    have e1 : (0 ≤ idxOf l.length (fun i => l.getD i 0 == x)) = False := eq_false (by omega)
    exact CallR.eval0 rfl rfl prog_slices_Contains_Suint8_uint8 rfl ⟨c1, fun k hk => by
      have := k1 k hk
      generalize idxOf l.length (fun i => l.getD i 0 == x) = z at this e1
      simp [a_slices_Contains_Suint8_uint8, this, e1]⟩
theorem isNaNU_spec (x : Int) (m : Mem) : CallR C (fnv fn_cmp_isNaN_uint8) [u8 x] m (.ret (bo false) m) :=
  CallR.eval0 rfl rfl prog_cmp_isNaN_uint8 rfl ⟨0, fun k _ => by simp [a_cmp_isNaN_uint8]⟩
theorem LessU_spec (x y : Int) (m : Mem) : CallR C (fnv fn_cmp_Less_uint8) [u8 x, u8 y] m (.ret (bo (decide (x < y))) m) := by
  obtain ⟨c1, k1⟩ := isNaNU_spec x { h := m.h }
  exact CallR.eval0 rfl rfl prog_cmp_Less_uint8 rfl ⟨c1, fun k hk => by simp [a_cmp_Less_uint8, k1 k hk]⟩
end Go.AM.T
/- What the functions compute (own work). -/
namespace Go.AM.T
open Go Go.AM
attribute [local simp] so_mov so_pick so_alloc so_box so_build so_slit so_load so_store so_nilc so_bin so_beq so_eqs so_eqn so_eqnl so_not so_conv so_s2b so_mkfn so_slcA so_padd so_fld so_idxA so_idxV so_idxT so_look so_mupd so_mkmap so_mksl so_ext so_app so_lenT so_lenM so_min so_max so_cpy so_clr so_mkif so_tass so_lenS so_idxS so_slc
attribute [local simp] dn_skip dn_label dn_ret dn_exit dn_scope dn_keep dn_reg dn_draw0 noSlots denE denEI stepE  sd_mov sd_pick sd_build sd_load sd_store sd_nilc sd_bin sd_beq sd_eqs sd_eqn sd_eqnl sd_not sd_conv sd_s2b sd_mkfn sd_slc sd_slcA sd_padd sd_fld sd_idxS sd_idxA sd_idxV sd_idxT sd_look sd_mupd sd_ext sd_app sd_lenS sd_lenT sd_lenM sd_min sd_max sd_mkif sd_tass sd_call sd_slit dn_seq dn_cond dn_block dn_loop kn_call denIs denI denOp wants ev eget putD binL enumFrom AV.bool? AV.int? ekeep evs evp runV fin runDefs resAll resOf tupOf unit AV.cells okV ok1 Value.oneCell' fill setN rcells rs_nil rs_cons load_own load_cons mkAgg_rs storeN jmpOut
attribute [local simp] dvL dv1t dvAt mkAgg2 dv0 dv1 dv2 dv3 dv4 dv5 dv6 dv7 dv8 dv9 dv10 dvA dvN dvAll C_fz fzr
/-- A number goes down to its place; lists so sorted. -/
def bub : Nat → List Int → List Int
  | 0, l => l
  | j + 1, l => if l.getD (j + 1) 0 < l.getD j 0 then bub j ((l.set (j + 1) (l.getD j 0)).set j (l.getD (j + 1) 0)) else l
theorem bub_len : ∀ (j : Nat) (l : List Int), (bub j l).length = l.length
  | 0, l => rfl
  | j + 1, l => by
    unfold bub
    split
    · rw [bub_len j]; simp
    · rfl
def insF : Nat → Nat → List Int → List Int
  | 0, _, l => l
  | k + 1, i, l => insF k (i + 1) (bub i l)
theorem insF_len : ∀ (k i : Nat) (l : List Int), (insF k i l).length = l.length
  | 0, _, l => rfl
  | k + 1, i, l => by unfold insF; rw [insF_len, bub_len]
def insL (l : List Int) : List Int := insF (l.length - 1) 1 l
theorem take_one_ints {k : IntKind} {l : List Int} {j : Nat} (hj : j < l.length) : List.take 1 (List.drop j (rs (ints k l))) = [.r (.lit (.int k (l.getD j 0)))] := by
  rw [List.take_one, List.head?_drop, rs_get]
  simp [ints, hj]
theorem put_ints {k : IntKind} {l : List Int} {j : Nat} (hj : j < l.length) (v : Int) : List.take j (rs (ints k l)) ++ .r (.lit (.int k v)) :: List.drop (j + 1) (rs (ints k l)) = rs (ints k (l.set j v)) := by
  have := setN_one (rs (ints k l)) (o := j) (by rw [rs_len, ints_len]; omega) (.r (.lit (.int k v)))
  rw [rs_set, ints_set] at this
  simpa [setN] using this
section
variable {B g n i : Nat} {T : TypeId}
theorem ins_inner (hi : i < n) (hn : n < 2 ^ 62) (H : List Blk) (hBl : B < H.length) :
    ∀ (j : Nat) (l : List Int) (s : St), j ≤ i → l.length = n → ekeep [0, 1, 2, 6, 7] s.env = [(0, .osl B g 0 n 1 none), (1, i64 0), (2, i64 n), (6, i64 i), (7, i64 j)] → s.m.h = H.set B (.cells (rs (ints .u8 l)) T g) → (∀ x ∈ s.m.wr, x = B) → s.defs = [] →
      ∃ s', Loop C [0, 1, 2, 6, 7] l_slices_insertionSortOrdered_uint8_0 s (.exit 2) s' ∧ s'.m.h = H.set B (.cells (rs (ints .u8 (bub j l))) T g) ∧ (∀ x ∈ s'.m.wr, x = B) ∧ s'.defs = [] ∧ ekeep [0, 1, 2, 6] s'.env = [(0, .osl B g 0 n 1 none), (1, i64 0), (2, i64 n), (6, i64 i)] := by
  intro j
  induction j with
  | zero =>
    intro l s hj hl he hm hw hd
    refine ⟨_, .stop (.of fun K => by rw [he]; simp [l_slices_insertionSortOrdered_uint8_0]; rfl) (by simp), by simp [hm, bub], by simpa using hw, by simp [hd], by simp⟩
  | succ j ih =>
    intro l s hj hl he hm hw hd
    obtain ⟨M, hM⟩ : ∃ M, M = s.m := ⟨_, rfl⟩
    obtain ⟨h, w⟩ := M
    rw [← hM] at hm hw
    simp only at hm hw
    have e0 : ((0 : Int) < (j : Int) + 1) = True := eq_true (by omega)
    have w1 : IntKind.wrap .i64 ((j : Int) + 1 - 1) = j := by rw [w64] <;> omega
    have w2 : IntKind.wrap .i64 (j : Int) = j := by rw [w64] <;> omega
    have hS : ∀ x, (H.set B x)[B]? = some x := fun x => List.getElem?_set_self hBl
    have hA : ∀ k : Nat, k < n → atOf 1 (.osl B g 0 n 1 none) (k : Int) = some (.own B g k) := fun k hk => by
      simp only [atOf]; rw [if_pos ⟨by omega, by omega, trivial⟩]; simp
    have hA0 := hA j (by omega)
    have hA1 := hA (j + 1) (by omega)
    rw [Int.natCast_add, Int.natCast_one] at hA1
    have hlen : (rs (ints .u8 l)).length = n := by rw [rs_len, ints_len, hl]
    have t0 := take_one_ints (k := .u8) (l := l) (j := j) (by omega)
    have t1 := take_one_ints (k := .u8) (l := l) (j := j + 1) (by omega)
    have o0 : (j + 1 ≤ n) = True := eq_true (by omega)
    have o1 : (j + 1 + 1 ≤ n) = True := eq_true (by omega)
    obtain ⟨x, hx⟩ : ∃ x, x = l.getD (j + 1) 0 := ⟨_, rfl⟩
    obtain ⟨y, hy⟩ : ∃ y, y = l.getD j 0 := ⟨_, rfl⟩
    rw [← hy] at t0
    rw [← hx] at t1
    obtain ⟨c1, k1⟩ := LessU_spec x y { h := H.set B (.cells (rs (ints .u8 l)) T g) }
    by_cases hlt : x < y
    · have e1 : decide (x < y) = true := decide_eq_true hlt
      rw [e1] at k1
      have p1 := put_ints (k := .u8) (l := l) (j := j + 1) (by omega) y
      have p0 := put_ints (k := .u8) (l := l.set (j + 1) y) (j := j) (by simp; omega) x
      have hlen1 : (rs (ints .u8 (l.set (j + 1) y))).length = n := by rw [rs_len, ints_len, List.length_set, hl]
      obtain ⟨I, hI⟩ : ∃ I, I = ints .u8 l := ⟨_, rfl⟩
      obtain ⟨I1, hI1⟩ : ∃ I, I = ints .u8 (l.set (j + 1) y) := ⟨_, rfl⟩
      obtain ⟨I2, hI2⟩ : ∃ I, I = ints .u8 ((l.set (j + 1) y).set j x) := ⟨_, rfl⟩
      rw [← hI] at hm hlen t0 t1 k1 p1
      rw [← hI1] at p1 p0 hlen1
      rw [← hI2] at p0
      obtain ⟨s', h1, h2, h3, h4, h5⟩ := ih ((l.set (j + 1) y).set j x) { s with env := [(0, .osl B g 0 n 1 none), (1, i64 0), (2, i64 n), (6, i64 i), (7, i64 j)], m := { h := H.set B (.cells (rs I2) T g), wr := B :: B :: w } } (by omega) (by simp [hl]) (by simp) (by rw [hI2]) (by
        intro z hz
        simp only [List.mem_cons] at hz
        rcases hz with rfl | rfl | hz
        · rfl
        · rfl
        · exact hw z hz) hd
      have hb : bub (j + 1) l = bub j ((l.set (j + 1) y).set j x) := by
        conv => lhs; unfold bub
        rw [← hx, ← hy, if_pos hlt]
      refine ⟨s', .more (.ofN ⟨c1, fun k hk => ?_⟩) h1, by rw [hb]; exact h2, h3, h4, h5⟩
      rw [he]
      simp [l_slices_insertionSortOrdered_uint8_0, ← hM, hm, e0, w1, w2, hA0, hA1, hS, hlen, hlen1, o0, o1, t0, t1, k1 k hk, p1, p0]
    · have e1 : decide (x < y) = false := decide_eq_false hlt
      rw [e1] at k1
      have hb : bub (j + 1) l = l := by unfold bub; rw [← hx, ← hy, if_neg hlt]
      obtain ⟨I, hI⟩ : ∃ I, I = ints .u8 l := ⟨_, rfl⟩
      rw [hb]
      rw [← hI] at hm hlen t0 t1 k1 ⊢
      refine ⟨_, .stop (.ofN ⟨c1, fun k hk => by rw [he]; simp [l_slices_insertionSortOrdered_uint8_0, ← hM, hm, e0, w1, w2, hA0, hA1, hS, hlen, o0, o1, t0, t1, k1 k hk]; rfl⟩) (by simp), by simp, by simpa using hw, by simp [hd], by simp⟩
theorem ins_outer (hn : n < 2 ^ 62) (H : List Blk) (hBl : B < H.length) : ∀ (k i : Nat) (l : List Int) (s : St), (k = 0 → n ≤ i) → (0 < k → i + k = n) → l.length = n → ekeep [0, 1, 2, 6] s.env = [(0, .osl B g 0 n 1 none), (1, i64 0), (2, i64 n), (6, i64 i)] → s.m.h = H.set B (.cells (rs (ints .u8 l)) T g) → (∀ x ∈ s.m.wr, x = B) → s.defs = [] →
      ∃ s', Loop C [0, 1, 2, 6] l_slices_insertionSortOrdered_uint8_1 s (.exit 0) s' ∧ s'.m.h = H.set B (.cells (rs (ints .u8 (insF k i l))) T g) ∧ (∀ x ∈ s'.m.wr, x = B) ∧ s'.defs = [] := by
  intro k
  induction k with
  | zero =>
    intro i l s h0 _ hl he hm hw hd
    have e0 : ((i : Int) < (n : Int)) = False := eq_false (by have := h0 rfl; omega)
    exact ⟨_, .stop (.of fun K => by rw [he]; simp [l_slices_insertionSortOrdered_uint8_1, e0]; rfl) (by simp), by simp [hm, insF], by simpa using hw, by simp [hd]⟩
  | succ k ih =>
    intro i l s _ h1 hl he hm hw hd
    have hin := h1 (by omega)
    have e0 : ((i : Int) < (n : Int)) = True := eq_true (by omega)
    have w1 : IntKind.wrap .i64 ((i : Int) + 1) = i + 1 := by rw [w64] <;> omega
    obtain ⟨s2, l2, m2, w2, d2, e2⟩ := ins_inner (g := g) (T := T) (i := i) (n := n) (B := B) (by omega) hn H hBl i l { s with env := [(0, .osl B g 0 n 1 none), (1, i64 0), (2, i64 n), (6, i64 i), (7, i64 i)] } (Nat.le_refl _) hl (by simp) hm hw hd
    obtain ⟨c2, k2⟩ := l2.get
    have e2' : eget s2.env 0 = .osl B g 0 n 1 none ∧ eget s2.env 1 = i64 0 ∧ eget s2.env 2 = i64 n ∧ eget s2.env 6 = i64 i := by simpa [ekeep] using e2
    obtain ⟨f0, f1, f2, f6⟩ := e2'
    obtain ⟨s3, l3, m3, w3, d3⟩ := ih (i + 1) (bub i l) { s2 with env := [(0, .osl B g 0 n 1 none), (1, i64 0), (2, i64 n), (6, i64 (i + 1 : Nat))] } (by omega) (by omega) (by rw [bub_len]; exact hl) (by simp) m2 w2 d2
    refine ⟨s3, .more (.ofN ⟨c2, fun q hq => ?_⟩) l3, m3, w3, d3⟩
    rw [he]
    have k2 := k2 q hq
    simp [l_slices_insertionSortOrdered_uint8_1, e0, k2, f0, f1, f2, f6, w1]
end
end Go.AM.T
/- What the functions compute (own work). -/
namespace Go.AM.T
open Go Go.AM
attribute [local simp] so_mov so_pick so_alloc so_box so_build so_slit so_load so_store so_nilc so_bin so_beq so_eqs so_eqn so_eqnl so_not so_conv so_s2b so_mkfn so_slcA so_padd so_fld so_idxA so_idxV so_idxT so_look so_mupd so_mkmap so_mksl so_ext so_app so_lenT so_lenM so_min so_max so_cpy so_clr so_mkif so_tass so_lenS so_idxS so_slc
attribute [local simp] dn_skip dn_label dn_ret dn_exit dn_scope dn_keep dn_reg dn_draw0 noSlots denE denEI stepE  sd_mov sd_pick sd_build sd_load sd_store sd_nilc sd_bin sd_beq sd_eqs sd_eqn sd_eqnl sd_not sd_conv sd_s2b sd_mkfn sd_slc sd_slcA sd_padd sd_fld sd_idxS sd_idxA sd_idxV sd_idxT sd_look sd_mupd sd_ext sd_app sd_lenS sd_lenT sd_lenM sd_min sd_max sd_mkif sd_tass sd_call sd_slit dn_seq dn_cond dn_block dn_loop kn_call denIs denI denOp wants ev eget putD binL enumFrom AV.bool? AV.int? ekeep evs evp runV fin runDefs resAll resOf tupOf unit AV.cells okV ok1 Value.oneCell' fill setN rcells rs_nil rs_cons load_own load_cons mkAgg_rs storeN jmpOut
attribute [local simp] dvL dv1t dvAt mkAgg2 dv0 dv1 dv2 dv3 dv4 dv5 dv6 dv7 dv8 dv9 dv10 dvA dvN dvAll C_fz fzr
theorem lt0s_rs' (n : Nat) : ∀ l : List RV, lt0s n (rs l) = true
  | [] => rfl
  | x :: l => by rw [rs_cons]; simp only [lt0s, lt0, Bool.true_and]; exact lt0s_rs' n l
/-- What a call that writes one block of numbers leaves. -/
theorem settle_one {H : List Blk} {W W1 : List Nat} {B g : Nat} {T : TypeId} {cs : List RV} {v v' : AV} (hB : B < H.length) (hw : ∀ x ∈ W1, x = B) (hv : ∀ m, fz m H.length C.fz v = some v') :
    ∃ W', Go.AM.settle C.fz false { h := H, wr := W } v { h := H.set B (.cells (rs cs) T g), wr := W1 } = (v', { h := H.set B (.cells (rs cs) T g), wr := W' }) ∧ ∀ x ∈ W', x ∈ W ∨ x = B := by
  refine ⟨oldWr H.length W1 ++ W, ?_, fun x hx => ?_⟩
  · rw [settle_w (hv _)]
    · simp [List.take_of_length_le]
    · intro i hi _ b hb
      have := hw i hi
      subst this
      simp only at hb
      rw [List.getElem?_set_self hB] at hb
      cases hb
      exact lt0s_rs' _ _
  · rcases List.mem_append.1 hx with hx | hx
    · unfold oldWr at hx
      exact .inr (hw x (List.mem_filter.1 hx).1)
    · exact .inl hx
theorem fz_unit (m : Mem) (n : Nat) : fz m n C.fz (.tup []) = some (.tup []) := by rw [C_fz]; rfl
theorem set_same {α : Type} {H : List α} {B : Nat} {b : α} (h : H[B]? = some b) : H.set B b = H := by
  obtain ⟨h1, h2⟩ := List.getElem?_eq_some_iff.1 h
  rw [← h2, List.set_getElem_self]
section
variable {B g : Nat} {T : TypeId} {l : List Int}
theorem insSort_spec (hl : 1 ≤ l.length ∧ l.length < 2 ^ 62) {H : List Blk} (hB : H[B]? = some (.cells (rs (ints .u8 l)) T g)) (W : List Nat) :
    ∃ W', CallR C (fnv fn_slices_insertionSortOrdered_uint8) [.osl B g 0 l.length 1 none, i64 0, i64 l.length] { h := H, wr := W } (.ret (.tup []) { h := H.set B (.cells (rs (ints .u8 (insL l))) T g), wr := W' }) ∧ ∀ x ∈ W', x ∈ W ∨ x = B := by
  have hBl := getElem?_lt hB
  obtain ⟨s, l1, m1, w1, d1⟩ := ins_outer (g := g) (T := T) (n := l.length) (by omega) H hBl (l.length - 1) 1 l { env := [(0, .osl B g 0 l.length 1 none), (1, i64 0), (2, i64 l.length), (6, i64 1)], m := { h := H } } (by omega) (by omega) rfl (by simp) (set_same hB).symm (by simp) rfl
  rw [show insF (l.length - 1) 1 l = insL l from rfl] at m1
  obtain ⟨c1, k1⟩ := l1.get
  obtain ⟨W', hs, hw⟩ := settle_one (W := W) (cs := ints .u8 (insL l)) (T := T) (g := g) hBl w1 (fun m => fz_unit m H.length)
  refine ⟨W', CallR.fnR (CallR.evalW (m1 := { h := H.set B (.cells (rs (ints .u8 (insL l))) T g), wr := s.m.wr }) (v := .tup []) rfl prog_slices_insertionSortOrdered_uint8 rfl ⟨c1, fun k hk => ?_⟩ hs), hw⟩
  have : s.m = { h := H.set B (.cells (rs (ints .u8 (insL l))) T g), wr := s.m.wr } := by rw [← m1]
  simp [runK, finK, a_slices_insertionSortOrdered_uint8, wk1, k1 k hk, d1]
  rw [this]
theorem pdqSort_spec (hl : 1 ≤ l.length ∧ l.length ≤ 12) {H : List Blk} (hB : H[B]? = some (.cells (rs (ints .u8 l)) T g)) (W : List Nat) (lim : Int) :
    ∃ W', CallR C (fnv fn_slices_pdqsortOrdered_uint8) [.osl B g 0 l.length 1 none, i64 0, i64 l.length, i64 lim] { h := H, wr := W } (.ret (.tup []) { h := H.set B (.cells (rs (ints .u8 (insL l))) T g), wr := W' }) ∧ ∀ x ∈ W', x ∈ W ∨ x = B := by
  have hBl := getElem?_lt hB
  obtain ⟨W1, ⟨c1, k1⟩, hw1⟩ := insSort_spec (T := T) (g := g) (l := l) ⟨hl.1, by omega⟩ hB []
  obtain ⟨W', hs, hw⟩ := settle_one (W := W) (cs := ints .u8 (insL l)) (T := T) (g := g) hBl (fun x hx => by simpa using hw1 x hx) (fun m => fz_unit m H.length)
  have w0 : IntKind.wrap .i64 (l.length : Int) = l.length := by rw [w64] <;> omega
  have e0 : ((l.length : Int) ≤ 12) = True := eq_true (by omega)
  refine ⟨W', CallR.fnR (CallR.evalW (m1 := { h := H.set B (.cells (rs (ints .u8 (insL l))) T g), wr := W1 }) (v := .tup []) rfl prog_slices_pdqsortOrdered_uint8 rfl ⟨c1 + 2, fun k hk => ?_⟩ hs), hw⟩
  obtain ⟨j, rfl⟩ : ∃ j, k = j + 1 := ⟨k - 1, by omega⟩
  simp [runK, finK, a_slices_pdqsortOrdered_uint8, goLoop, kn_iter, iterN, l_slices_pdqsortOrdered_uint8_0, w0, e0, k1 (j + 1) (by omega)]
theorem Len_spec (n : Nat) (h : n ≤ 3) (m : Mem) : ∃ r : Int, CallR C (fnv fn_math_bits_Len) [.r (.lit (.int .u64 n))] m (.ret (i64 r) m) := by
  have key : ∀ r : Int, (∀ H : List Blk, runV (Kn C 5) C.fz a_math_bits_Len64 [.r (.lit (.int .u64 n))] H = some (i64 r, { h := H, wr := [] })) → CallR C (fnv fn_math_bits_Len) [.r (.lit (.int .u64 n))] m (.ret (i64 r) m) := by
    intro r hr
    obtain ⟨c1, k1⟩ : CallR C (fnv fn_math_bits_Len64) [.r (.lit (.int .u64 n))] { h := m.h } (.ret (i64 r) { h := m.h }) := CallR.eval1 (n := 5) (m1 := { h := m.h, wr := [] }) rfl rfl prog_math_bits_Len64 rfl (hr m.h) (by simp) (by simp)
    exact CallR.eval0 rfl rfl prog_math_bits_Len rfl ⟨c1, fun k hk => by simp [a_math_bits_Len, k1 k hk]⟩
  have : n = 0 ∨ n = 1 ∨ n = 2 ∨ n = 3 := by omega
  rcases this with rfl | rfl | rfl | rfl
  · exact ⟨0, key 0 fun H => by kernel_rfl⟩
  · exact ⟨1, key 1 fun H => by kernel_rfl⟩
  · exact ⟨2, key 2 fun H => by kernel_rfl⟩
  · exact ⟨2, key 2 fun H => by kernel_rfl⟩
theorem Sort_spec (hl : 1 ≤ l.length ∧ l.length ≤ 3) {H : List Blk} (hB : H[B]? = some (.cells (rs (ints .u8 l)) T g)) (W : List Nat) :
    ∃ W', CallR C (fnv fn_slices_Sort_Suint8_uint8) [.osl B g 0 l.length 1 none] { h := H, wr := W } (.ret (.tup []) { h := H.set B (.cells (rs (ints .u8 (insL l))) T g), wr := W' }) ∧ ∀ x ∈ W', x ∈ W ∨ x = B := by
  have hBl := getElem?_lt hB
  obtain ⟨r, c2, k2⟩ := Len_spec l.length hl.2 { h := H }
  obtain ⟨W1, ⟨c1, k1⟩, hw1⟩ := pdqSort_spec (T := T) (g := g) (l := l) ⟨hl.1, by omega⟩ hB [] r
  obtain ⟨W', hs, hw⟩ := settle_one (W := W) (cs := ints .u8 (insL l)) (T := T) (g := g) hBl (fun x hx => by simpa using hw1 x hx) (fun m => fz_unit m H.length)
  have w0 : IntKind.wrap .u64 (l.length : Int) = l.length := by
    unfold IntKind.wrap; simp [IntKind.bits, IntKind.signed]; omega
  refine ⟨W', CallR.fnR (CallR.evalW (m1 := { h := H.set B (.cells (rs (ints .u8 (insL l))) T g), wr := W1 }) (v := .tup []) rfl prog_slices_Sort_Suint8_uint8 rfl ⟨c1 + c2, fun k hk => ?_⟩ hs), hw⟩
  simp [runK, finK, a_slices_Sort_Suint8_uint8, lenOf, w0, k2 k (by omega), k1 k (by omega)]
end
end Go.AM.T
/- What the functions compute (own work). -/
namespace Go.AM.T
open Go Go.AM
attribute [local simp] so_mov so_pick so_alloc so_box so_build so_slit so_load so_store so_nilc so_bin so_beq so_eqs so_eqn so_eqnl so_not so_conv so_s2b so_mkfn so_slcA so_padd so_fld so_idxA so_idxV so_idxT so_look so_mupd so_mkmap so_mksl so_ext so_app so_lenT so_lenM so_min so_max so_cpy so_clr so_mkif so_tass so_lenS so_idxS so_slc
attribute [local simp] dn_skip dn_label dn_ret dn_exit dn_scope dn_keep dn_reg dn_draw0 noSlots denE denEI stepE  sd_mov sd_pick sd_build sd_load sd_store sd_nilc sd_bin sd_beq sd_eqs sd_eqn sd_eqnl sd_not sd_conv sd_s2b sd_mkfn sd_slc sd_slcA sd_padd sd_fld sd_idxS sd_idxA sd_idxV sd_idxT sd_look sd_mupd sd_ext sd_app sd_lenS sd_lenT sd_lenM sd_min sd_max sd_mkif sd_tass sd_call sd_slit dn_seq dn_cond dn_block dn_loop kn_call denIs denI denOp wants ev eget putD binL enumFrom AV.bool? AV.int? ekeep evs evp runV fin runDefs resAll resOf tupOf unit AV.cells okV ok1 Value.oneCell' fill setN rcells rs_nil rs_cons load_own load_cons mkAgg_rs storeN jmpOut
attribute [local simp] dvL dv1t dvAt mkAgg2 dv0 dv1 dv2 dv3 dv4 dv5 dv6 dv7 dv8 dv9 dv10 dvA dvN dvAll C_fz fzr
theorem set_mid {α : Type} (h r : List α) (k : Nat) (x : α) : (h ++ r).set (h.length + k) x = h ++ r.set k x := by
  rw [List.set_append_right _ _ (by omega), Nat.add_sub_cancel_left]
theorem get_midk {α : Type} (h r : List α) (k : Nat) : (h ++ r)[h.length + k]? = r[k]? := by
  rw [List.getElem?_append_right (by omega), Nat.add_sub_cancel_left]
/-- The outcomes so far, and one truth more. -/
def alStep (d : Div) (s t : List Int) : List Int × Bool := if s.contains (outcomeI d (numsL d t)) = true then (s, true) else (s ++ [outcomeI d (numsL d t)], true)
theorem alStep_2 (d : Div) (s t : List Int) : (alStep d s t).2 = true := by unfold alStep; split <;> rfl
theorem alStep_len (d : Div) (s t : List Int) : (alStep d s t).1.length ≤ s.length + 1 := by unfold alStep; split <;> simp
def lpA (d : Div) (L : Nat) (D R : List RV) : Lp (List Int) where
  E := [(2, .r .nil), (3, i64 0), (4, .own (L + 1) 0 0), (6, .own (L + 2) 0 0), (18, .r (.fn fn_tally_looked_truths_1 [] [.ptr R]))]
  pt := 19
  tt := 7
  bd := b_tally_Allowed_0
  k := 3
  P := fun _ v => [.cells (rs D) ty_tally_Division 0, .cells (rs R) ty_tally_looked 0, .cells [v] ty_Suint8 0]
  T := ty_uint8
  sz := 1
  cs := fun s => ints .u8 s
  nn := List.length
  jb := 2
  Tb := ty_Suint8
  alive := fun _ => true
  rank := List.length
  N := 10000
  step := alStep d
theorem nums_le {d : Div} (hr : rightB d = true) (t : List Int) : (0 ≤ (numsL d t).1 ∧ (numsL d t).1 ≤ 1000) ∧ (0 ≤ (numsL d t).2 ∧ (numsL d t).2 ≤ 1000) := by
  have hn := right_n hr
  obtain ⟨_, hp, _⟩ := right_len hr
  have h1 := numsM_le d t d.n.toNat
  have h2 := prox_le d t d.proxies (numsM d t d.n.toNat) (d.n.toNat : Int) h1.1 h1.2
  unfold numsL
  omega
theorem pre_get {σ : Type} {l : Lp σ} {m : Mem} {H : List Blk} {n : Nat} {s : σ} {v : AV} {st : LSt} {pd : Option Jmp} {k : Nat} {b : Blk} (h : H.take n = l.low m s v st pd) (hk : m.h.length + k < n) (hb : (l.P s v)[k]? = some b) : H[m.h.length + k]? = some b := by
  rw [take_get h hk]
  unfold Lp.low
  rw [List.append_assoc, get_midk, List.getElem?_append_left (getElem?_lt' hb)]
  exact hb
where getElem?_lt' {α : Type} {l : List α} {i : Nat} {x : α} (h : l[i]? = some x) : i < l.length := (List.getElem?_eq_some_iff.1 h).1
section
variable {d : Div} {a0 a1 n0 n1 p q : RV}
theorem al_ok (hs : DivS d a0 a1 n0 n1 p q) (hr : rightB d = true) (h0 : 0 ≤ d.rule) (m : Mem) {D R : List RV} (hR : R = lookC d (divC d a0 a1 n0 n1 p q)) : (lpA d m.h.length D R).Ok m where
  len := fun _ _ => rfl
  al := fun s t => (alStep_2 d s t).symm
  rk := fun s t => alStep_len d s t
  jb := by show 2 < 3; omega
  body := by
    intro s v t Hb W X _ hrk ht htk hG hX1 hX2 hT
    have hrk : s.length < 10000 := hrk
    have htk : Hb.take (m.h.length + 5) = (lpA d m.h.length D R).low m s v .busy none := htk
    have hG : GS Hb (m.h.length + 5) ty_uint8 1 (ints .u8 s) s.length v := hG
    have lR : R.length = 91 := by rw [hR]; exact lookC_len
    have tR : List.take 91 (rs R) = rs R := List.take_of_length_le (by rw [rs_len]; omega)
    have l40 : (ints .u8 t).length = 40 := by rw [ints_len]; exact ht.1
    have t40 : List.take 40 (rs (ints .u8 t)) = rs (ints .u8 t) := List.take_of_length_le (by rw [rs_len]; omega)
    have gX : Hb[m.h.length + 1]? = some (.cells (rs R) ty_tally_looked 0) := pre_get htk (by omega) rfl
    have gV : Hb[m.h.length + 2]? = some (.cells [v] ty_Suint8 0) := pre_get htk (by omega) rfl
    have hlen : m.h.length + 5 ≤ Hb.length := by
      have := congrArg List.length htk
      rw [List.length_take] at this
      have h2 : ((lpA d m.h.length D R).low m s v .busy none).length = m.h.length + 5 := by simp [Lp.low, lpA]
      omega
    have hnl := nums_le hr t
    obtain ⟨c1, k1⟩ := numbers_spec hs hr ht.1 { h := Hb }
    obtain ⟨c2, k2⟩ := outcome_spec (a0 := a0) (a1 := a1) (n0 := n0) (n1 := n1) (p := p) (q := q) hr h0 (numsL d t) hnl.1 hnl.2 { h := Hb }
    rw [← hR] at k1 k2
    obtain ⟨o, ho⟩ : ∃ o, o = outcomeI d (numsL d t) := ⟨_, rfl⟩
    obtain ⟨n, hn⟩ : ∃ n, n = numsL d t := ⟨_, rfl⟩
    obtain ⟨c3, k3⟩ := ContainsU_spec (m := { h := Hb, wr := W }) (Arr.ofGS hG) (by omega) o
    have hstep : (lpA d m.h.length D R).step s t = if s.contains o = true then (s, true) else (s ++ [o], true) := by rw [ho]; rfl
    obtain ⟨I, hI⟩ : ∃ I, I = ints .u8 t := ⟨_, rfl⟩
    rw [← hI] at k1 hT l40 t40 ⊢
    rw [← ho] at k2
    rw [← hn] at k1 k2
    simp only [nmR] at k2
    cases e : s.contains o with
    | true =>
      rw [e] at k3
      rw [if_pos e] at hstep
      rw [hstep]
      have hs2 : ∃ s2, Den C (lpA d m.h.length D R).bd { env := ((lpA d m.h.length D R).tt, .own X 0 0) :: ((lpA d m.h.length D R).pt, .r (.agg I)) :: (lpA d m.h.length D R).E, m := { h := Hb, wr := W }, round := some (m.h.length + 3 + 1) } .norm s2 ∧ s2.m = { h := Hb, wr := W } := by
        refine ⟨_, .ofN ⟨c1 + c2 + c3, fun k hk => by
          simp [lpA, b_tally_Allowed_0, dn_drawF, denF, denFI, stepF, slotFree, slotOf, foot, avIdx, pairsOk, apartL_nil, wrAll_self, gX, gV, hT, rs_len, lR, tR, l40, t40, k1 k (by omega), k2 k (by omega), k3 k (by omega)]
          rfl⟩, rfl⟩
      obtain ⟨s2, k4, m4⟩ := hs2
      refine ⟨s2, .norm, v, k4, .inl ⟨rfl, rfl⟩, ?_⟩
      rw [m4]
      exact ⟨htk, hG, fun _ _ _ _ => rfl, Nat.le_refl _, fun x hx => .inl hx, fun j hj => .inl hj, .inl rfl⟩
    | false =>
      rw [e] at k3
      rw [if_neg (by rw [e]; simp)] at hstep
      rw [hstep]
      obtain ⟨B, g, H', W', hA, hB, hG2, hfr, hBx, hl2, hkt, hW'⟩ := hG.app2 (new := [.lit (.int .u8 o)]) (k := 1) W 1 (some 1) hlen (by omega) rfl ⟨by omega, by omega⟩
      have gV' : H'[m.h.length + 2]? = some (.cells [v] ty_Suint8 0) := by rw [take_get hkt (by omega), List.getElem?_take_of_lt (by omega)]; exact gV
      obtain ⟨H2, hH2⟩ : ∃ H2, H2 = H'.set (m.h.length + 2) (.cells [.osl B g 0 (s.length + 1) 1 none] ty_Suint8 0) := ⟨_, rfl⟩
      have hs2 : ∃ s2, Den C (lpA d m.h.length D R).bd { env := ((lpA d m.h.length D R).tt, .own X 0 0) :: ((lpA d m.h.length D R).pt, .r (.agg I)) :: (lpA d m.h.length D R).E, m := { h := Hb, wr := W }, round := some (m.h.length + 3 + 1) } .norm s2 ∧ s2.m.h = H2 ∧ s2.m.wr = (m.h.length + 2) :: W' := by
        refine ⟨_, .ofN ⟨c1 + c2 + c3, fun k hk => by
          simp [lpA, b_tally_Allowed_0, dn_drawF, denF, denFI, stepF, slotFree, slotOf, foot, avIdx, pairsOk, apartL_nil, wrAll_self, gX, gV, hT, rs_len, lR, tR, l40, t40, k1 k (by omega), k2 k (by omega), k3 k (by omega), allR, AV.toR, repl, hA, gV', ← hH2]
          rfl⟩, rfl, rfl⟩
      obtain ⟨s2, k4, m4, w4⟩ := hs2
      refine ⟨s2, .norm, .osl B g 0 (s.length + 1) 1 none, k4, .inl ⟨rfl, rfl⟩, ?_, ?_, ?_, ?_, ?_, ?_, .inr ⟨by rw [w4]; simp [lpA], rfl⟩⟩
      · rw [m4]
        show H2.take (m.h.length + 5) = _
        rw [hH2, List.take_set, hkt, htk]
        unfold Lp.low
        rw [List.append_assoc, List.append_assoc, set_mid]; rfl
      · rw [m4]
        show GS H2 (m.h.length + 5) ty_uint8 1 (ints .u8 (s ++ [o])) (s ++ [o]).length _
        rw [show ints .u8 (s ++ [o]) = ints .u8 s ++ [.lit (.int .u8 o)] by simp [ints], show (s ++ [o]).length = s.length + 1 by simp]
        exact hG2.same fun j hj => by
          have := (hG2.idx j hj).1
          rw [hH2, List.getElem?_set_ne (by omega)]
      · intro j h1 h2 h3
        have h1 : m.h.length + 5 ≤ j := h1
        rw [m4, hH2, List.getElem?_set_ne (by omega)]
        exact hfr j h2 h3
      · rw [m4, hH2, List.length_set]; exact hl2
      · intro x hx
        rw [w4] at hx
        rcases List.mem_cons.1 hx with rfl | hx
        · exact .inr (by omega)
        · rcases hW' x hx with h | h
          · exact .inl h
          · exact .inr (by omega)
      · intro j hj
        simp [avIdx] at hj
        subst hj
        rcases hBx with h | h
        · exact .inl h
        · exact .inr (by omega)
end
end Go.AM.T
/- What the functions compute (own work). -/
namespace Go.AM.T
open Go Go.AM
attribute [local simp] so_mov so_pick so_alloc so_box so_build so_slit so_load so_store so_nilc so_bin so_beq so_eqs so_eqn so_eqnl so_not so_conv so_s2b so_mkfn so_slcA so_padd so_fld so_idxA so_idxV so_idxT so_look so_mupd so_mkmap so_mksl so_ext so_app so_lenT so_lenM so_min so_max so_cpy so_clr so_mkif so_tass so_lenS so_idxS so_slc
attribute [local simp] dn_skip dn_label dn_ret dn_exit dn_scope dn_keep dn_reg dn_draw0 noSlots denE denEI stepE  sd_mov sd_pick sd_build sd_load sd_store sd_nilc sd_bin sd_beq sd_eqs sd_eqn sd_eqnl sd_not sd_conv sd_s2b sd_mkfn sd_slc sd_slcA sd_padd sd_fld sd_idxS sd_idxA sd_idxV sd_idxT sd_look sd_mupd sd_ext sd_app sd_lenS sd_lenT sd_lenM sd_min sd_max sd_mkif sd_tass sd_call sd_slit dn_seq dn_cond dn_block dn_loop kn_call denIs denI denOp wants ev eget putD binL enumFrom AV.bool? AV.int? ekeep evs evp runV fin runDefs resAll resOf tupOf unit AV.cells okV ok1 Value.oneCell' fill setN rcells rs_nil rs_cons load_own load_cons mkAgg_rs storeN jmpOut
attribute [local simp] dvL dv1t dvAt mkAgg2 dv0 dv1 dv2 dv3 dv4 dv5 dv6 dv7 dv8 dv9 dv10 dvA dvN dvAll C_fz fzr
def VOs (s : List Int) : Prop := s.Nodup ∧ ∀ x ∈ s, x = 0 ∨ x = 1 ∨ x = 2
theorem nodup_le {s m : List Int} (hs : s.Nodup) (h : ∀ x ∈ s, x ∈ m) : s.length ≤ m.length := by
  induction s generalizing m with
  | nil => simp
  | cons a s ih =>
    have ha := h a (by simp)
    rw [List.nodup_cons] at hs
    have h1 := ih (m := m.erase a) hs.2 fun x hx => by
      rw [List.mem_erase_of_ne (by rintro rfl; exact hs.1 hx)]
      exact h x (by simp [hx])
    have h2 := List.length_erase_of_mem ha
    have h3 := List.length_pos_of_mem ha
    simp only [List.length_cons]; omega
theorem VOs.le {s : List Int} (h : VOs s) : s.length ≤ 3 := nodup_le (m := [0, 1, 2]) h.1 fun x hx => by simpa using h.2 x hx
theorem outcome_v (d : Div) (n : Int × Int) : outcomeI d n = 0 ∨ outcomeI d n = 1 ∨ outcomeI d n = 2 := by
  unfold outcomeI
  split
  · exact .inr (.inr rfl)
  · split
    · exact .inr (.inl rfl)
    · exact .inl rfl
theorem alStep_ok {d : Div} {s t : List Int} (h : VOs s) : VOs (alStep d s t).1 := by
  unfold alStep
  split
  · exact h
  · rename_i hc
    have hc : outcomeI d (numsL d t) ∉ s := by simpa using hc
    refine ⟨?_, fun x hx => ?_⟩
    · show (s ++ [outcomeI d (numsL d t)]).Nodup
      rw [List.nodup_append]
      refine ⟨h.1, by simp, fun a ha b hb => ?_⟩
      simp at hb
      subst hb
      rintro rfl
      exact hc ha
    · rcases List.mem_append.1 hx with hx | hx
      · exact h.2 x hx
      · simp at hx; subst hx; exact outcome_v _ _
/-- The outcomes of some truths. -/
theorem alF_ok {d : Div} : ∀ (l : List (List Int)) (s : List Int), VOs s → VOs (foldS (alStep d) s l).1
  | [], s, h => h
  | t :: l, s, h => by
    rw [foldS_cons, if_pos (alStep_2 d s t)]
    exact alF_ok l _ (alStep_ok h)
theorem alF_mem {d : Div} : ∀ (l : List (List Int)) (s : List Int) (o : Int), o ∈ (foldS (alStep d) s l).1 ↔ o ∈ s ∨ ∃ t ∈ l, outcomeI d (numsL d t) = o
  | [], s, o => by simp [foldS]
  | t :: l, s, o => by
    rw [foldS_cons, if_pos (alStep_2 d s t), alF_mem l]
    have : o ∈ (alStep d s t).1 ↔ o ∈ s ∨ outcomeI d (numsL d t) = o := by
      unfold alStep
      split
      · rename_i hc
        have hc : outcomeI d (numsL d t) ∈ s := by simpa using hc
        constructor
        · exact fun h => .inl h
        · rintro (h | rfl)
          · exact h
          · exact hc
      · rw [List.mem_append, List.mem_singleton, eq_comm (a := o)]
    rw [this]
    simp only [List.mem_cons, exists_eq_or_imp, or_assoc]
def alL (d : Div) : List Int := (foldS (alStep d) [] (truthsOf d)).1
theorem alL_ok (d : Div) : VOs (alL d) := alF_ok _ _ ⟨by simp, by simp⟩
theorem alL_mem {d : Div} {o : Int} : o ∈ alL d ↔ ∃ t ∈ truthsOf d, outcomeI d (numsL d t) = o := by unfold alL; rw [alF_mem]; simp
/-- The outcomes that the lists allow. -/
def alS (d : Div) : List Int := [0, 1, 2].filter fun o => (alL d).contains o
theorem insL_ok {s : List Int} (h : VOs s) : insL s = [0, 1, 2].filter fun o => s.contains o := by
  have hl := h.le
  have hv := h.2
  have hn := h.1
  match s, hl, hv, hn with
  | [], _, _, _ => rfl
  | [a], _, hv, _ => rcases hv a (by simp) with rfl | rfl | rfl <;> rfl
  | [a, b], _, hv, hn =>
    rcases hv a (by simp) with rfl | rfl | rfl <;> rcases hv b (by simp) with rfl | rfl | rfl <;> first | rfl | (exfalso; simp at hn)
  | [a, b, c], _, hv, hn =>
    rcases hv a (by simp) with rfl | rfl | rfl <;> rcases hv b (by simp) with rfl | rfl | rfl <;> rcases hv c (by simp) with rfl | rfl | rfl <;> first | rfl | (exfalso; simp at hn)
  | a :: b :: c :: e :: r, hl, _, _ => simp at hl
theorem truthsOf_ne {d : Div} (ho : openI d = 0) : truthsOf d ≠ [] := by
  obtain ⟨hr, hcl, hd⟩ := openI0 ho
  have hn := right_n hr
  rw [truthsOf_rt hn.2]
  have hne : ∀ k : Nat, (k : Int) < d.n → may d k ≠ [] := fun k hk e => by
    have : bothB d k = true := by rw [← may_nil]; simp [e]
    unfold clashB at hcl
    rw [List.find?_eq_none] at hcl
    exact hcl k (by simp; omega) this
  have := rtF_ne (d := d) d.n.toNat [] fun k hk => hne k (by simp at hk; omega)
  unfold rtOf
  simpa using this
theorem truthsOf_count {d : Div} (ho : openI d = 0) : (truthsOf d).length ≤ 6561 := by
  obtain ⟨hr, hcl, hd⟩ := openI0 ho
  rw [truthsOf_rt (right_n hr).2, List.length_map]
  exact rtOf_count hd
theorem alL_ne {d : Div} (ho : openI d = 0) : alL d ≠ [] := by
  obtain ⟨t, ht⟩ := List.exists_mem_of_ne_nil _ (truthsOf_ne ho)
  have : outcomeI d (numsL d t) ∈ alL d := alL_mem.2 ⟨t, ht, rfl⟩
  intro e; rw [e] at this; cases this
theorem alS_len {d : Div} : (alS d).length = (alL d).length := by
  unfold alS
  rw [← insL_ok (alL_ok d)]
  unfold insL
  rw [insF_len]
section
variable {d : Div} {a0 a1 n0 n1 p q : RV}
theorem Allowed_spec (hs : DivS d a0 a1 n0 n1 p q) (hb : Small d) (hru : 0 ≤ d.rule ∧ d.rule ≤ 255) (m : Mem) : CallR C (fnv fn_tally_Allowed) [.r (.agg (divC d a0 a1 n0 n1 p q))] m
    (.ret (.tup [.r (if openI d = 0 then .sl (ints .u8 (alS d)) (alS d).length none else .nil), i64 (openI d)]) m) := by
  obtain ⟨R, hRR⟩ : ∃ R, R = (if openI d = 0 then lookC d (divC d a0 a1 n0 n1 p q) else z_tally_looked) := ⟨_, rfl⟩
  have lR : R.length = 91 := by rw [hRR]; split <;> rfl
  have hRt : List.take 91 (rs R) = rs R := List.take_of_length_le (by rw [rs_len]; omega)
  obtain ⟨Z, hZ⟩ : ∃ Z, Z = z_tally_looked := ⟨_, rfl⟩
  have hZl : Z.length = 91 := by rw [hZ]; rfl
  have hZd : List.drop 91 (rs Z) = [] := List.drop_eq_nil_of_le (by rw [rs_len]; omega)
  have hd11 : (divC d a0 a1 n0 n1 p q).length = 11 := rfl
  obtain ⟨D, hD⟩ : ∃ D, D = divC d a0 a1 n0 n1 p q := ⟨_, rfl⟩
  obtain ⟨c1, k1⟩ := topen_spec hs hb hru { h := m.h ++ [.cells (rs (divC d a0 a1 n0 n1 p q)) ty_tally_Division 0] }
  rw [← hRR] at k1
  by_cases e : openI d = 0
  · rw [if_pos e] at hRR
    rw [e] at k1
    rw [if_pos e, e]
    obtain ⟨hr, -, -⟩ := openI0 e
    have hn := right_n hr
    have hok := al_ok hs hr hru.1 m (D := D) hRR
    obtain ⟨H', W', v, ⟨c2, k2⟩, htk, hG, hw⟩ := Lp.range hok (by show 7 ≠ 19; omega) hn (R := R) (fun m => by rw [hRR]; exact lookC_p0 m) (fun m k h1 h2 => by rw [hRR]; exact lookC_pm m k h1 h2) (q := 18) rfl [] rfl (by show 0 + (truthsOf d).length ≤ 10000; have := truthsOf_count e; omega) rfl rfl [m.h.length + 1]
    have hF : (foldS (lpA d m.h.length D R).step [] (truthsOf d)).1 = alL d := rfl
    rw [hF] at htk hG k2
    have k2 : ∀ k, c2 ≤ k → den (Kn C k) (.rangeF (.t 18) [19] s_tally_Allowed_0 b_tally_Allowed_0) { env := [(2, .r .nil), (3, i64 0), (4, .own (m.h.length + 1) 0 0), (6, .own (m.h.length + 2) 0 0), (18, .r (.fn fn_tally_looked_truths_1 [] [.ptr R]))], m := { h := m.h ++ [.cells (rs D) ty_tally_Division 0, .cells (rs R) ty_tally_looked 0, .cells [.r .nil] ty_Suint8 0], wr := [m.h.length + 1] } } = some (.norm, { env := [(2, .r .nil), (3, i64 0), (4, .own (m.h.length + 1) 0 0), (6, .own (m.h.length + 2) 0 0), (18, .r (.fn fn_tally_looked_truths_1 [] [.ptr R]))], m := { h := H', wr := W' }, defs := [.dfr (m.h.length + 3)] }) := k2
    have htk : H'.take (m.h.length + 5) = m.h ++ [.cells (rs D) ty_tally_Division 0, .cells (rs R) ty_tally_looked 0, .cells [v] ty_Suint8 0] ++ [.dfr, .dead] := htk
    have hG : GS H' (m.h.length + 5) ty_uint8 1 (ints .u8 (alL d)) (alL d).length v := hG
    have g2 : H'[m.h.length + 2]? = some (.cells [v] ty_Suint8 0) := by rw [take_get htk (by omega), List.append_assoc, get_midk]; rfl
    have g3 : H'[m.h.length + 3]? = some .dfr := by rw [take_get htk (by omega), List.append_assoc, get_midk]; rfl
    have ht : H'.take m.h.length = m.h := by
      have := congrArg (List.take m.h.length) htk
      rw [List.take_take, Nat.min_eq_left (by omega), List.append_assoc, List.take_left'] at this
      · exact this
      · rfl
    have hal := alL_ok d
    have hle := hal.le
    cases hG with
    | nil e1 e2 => exact absurd (List.length_eq_zero_iff.1 e1) (alL_ne e)
    | osl B g h1 h2 h3 h4 =>
      have hBl := getElem?_lt h2
      obtain ⟨W2, ⟨c3, k3⟩, hw2⟩ := Sort_spec (l := alL d) ⟨h3, hle⟩ h2 W'
      obtain ⟨c4, k4⟩ := truths_spec lR { h := m.h ++ [.cells (rs D) ty_tally_Division 0, .cells (rs R) ty_tally_looked 0, .cells [.r .nil] ty_Suint8 0], wr := [m.h.length + 1] }
      rw [insL_ok hal] at k3
      rw [show List.filter (fun o => (alL d).contains o) [0, 1, 2] = alS d from rfl] at k3
      obtain ⟨I, hI⟩ : ∃ I, I = ints .u8 (alS d) := ⟨_, rfl⟩
      obtain ⟨n, hnn⟩ : ∃ n, n = (alL d).length := ⟨_, rfl⟩
      have hIl : I.length = n := by rw [hI, ints_len, alS_len, hnn]
      rw [alS_len, ← hI, ← hnn]
      rw [← hI, ← hnn] at k3
      rw [← hnn] at g2 h3 hle
      obtain ⟨H3, hH3⟩ : ∃ H3, H3 = H'.set B (.cells (rs I) ty_uint8 g) := ⟨_, rfl⟩
      rw [← hH3] at k3
      have g33 : H3[m.h.length + 3]? = some .dfr := by rw [hH3, List.getElem?_set_ne (by omega)]; exact g3
      have g32 : H3[m.h.length + 2]? = some (.cells [.osl B g 0 n 1 none] ty_Suint8 0) := by rw [hH3, List.getElem?_set_ne (by omega)]; exact g2
      obtain ⟨H4, hH4⟩ : ∃ H4, H4 = H3.set (m.h.length + 3) .dead := ⟨_, rfl⟩
      have g4 : H4[B]? = some (.cells (rs I) ty_uint8 g) := by rw [hH4, List.getElem?_set_ne (by omega), hH3, List.getElem?_set_self hBl]
      have hz : ∀ W, fz { h := H4, wr := W } m.h.length 999998 (.osl B g 0 n 1 none) = some (.r (.sl I n none)) := fun W => fz_osl (t := ty_uint8) g4 (by omega) (by omega) (by omega)
      have hzt : ∀ W, fz { h := H4, wr := W } m.h.length 1000000 (.tup [.osl B g 0 n 1 none, i64 0]) = some (.tup [.r (.sl I n none), i64 0]) := fun W => fz_tup (k := 999999) (fzs_one (k := 999998) (hz W) (fzs_one (k := 999997) rfl rfl))
      refine CallR.eval (m1 := { h := H4, wr := (m.h.length + 3) :: W2 }) rfl rfl prog_tally_Allowed rfl ⟨c1 + c2 + c3 + c4, fun k hk => ?_⟩ (by rw [hH4, List.take_set_of_le (by omega), hH3, List.take_set_of_le (by omega)]; exact ht) (by
        intro x hx
        rcases List.mem_cons.1 hx with rfl | hx
        · omega
        · rcases hw2 x hx with h | rfl
          · rcases hw x h with h | h
            · simp at h; omega
            · exact h
          · omega)
      rw [← hD] at k1 hd11 ⊢
      have hDt : List.take 11 (rs D) = rs D := List.take_of_length_le (by rw [rs_len]; omega)
      simp [a_tally_Allowed, ← hZ, hd11, hDt, rs_len, hZl, hZd, lR, hRt, k1 k (by omega), k4 k (by omega), k2 k (by omega), k3 k (by omega), g2, g32, g33, ← hH4, hzt]
  · rw [if_neg e]
    have e' : (openI d == 0) = false := by simpa using e
    refine CallR.eval (m1 := { h := m.h ++ [.cells (rs (divC d a0 a1 n0 n1 p q)) ty_tally_Division 0, .cells (rs R) ty_tally_looked 0], wr := [m.h.length + 1] }) rfl rfl prog_tally_Allowed rfl ⟨c1, fun k hk => ?_⟩ (by simp) (by simp)
    simp [a_tally_Allowed, ← hZ, hd11, rs_len, hZl, hZd, lR, hRt, k1 k (by omega), e', e, fz, fzs]
end
end Go.AM.T
/- What the functions compute (own work). -/
namespace Go.AM.T
open Go Go.AM
attribute [local simp] so_mov so_pick so_alloc so_box so_build so_slit so_load so_store so_nilc so_bin so_beq so_eqs so_eqn so_eqnl so_not so_conv so_s2b so_mkfn so_slcA so_padd so_fld so_idxA so_idxV so_idxT so_look so_mupd so_mkmap so_mksl so_ext so_app so_lenT so_lenM so_min so_max so_cpy so_clr so_mkif so_tass so_lenS so_idxS so_slc
attribute [local simp] dn_skip dn_label dn_ret dn_exit dn_scope dn_keep dn_reg dn_draw0 noSlots denE denEI stepE  sd_mov sd_pick sd_build sd_load sd_store sd_nilc sd_bin sd_beq sd_eqs sd_eqn sd_eqnl sd_not sd_conv sd_s2b sd_mkfn sd_slc sd_slcA sd_padd sd_fld sd_idxS sd_idxA sd_idxV sd_idxT sd_look sd_mupd sd_ext sd_app sd_lenS sd_lenT sd_lenM sd_min sd_max sd_mkif sd_tass sd_call sd_slit dn_seq dn_cond dn_block dn_loop kn_call denIs denI denOp wants ev eget putD binL enumFrom AV.bool? AV.int? ekeep evs evp runV fin runDefs resAll resOf tupOf unit AV.cells okV ok1 Value.oneCell' fill setN rcells rs_nil rs_cons load_own load_cons mkAgg_rs storeN jmpOut
attribute [local simp] dvL dv1t dvAt mkAgg2 dv0 dv1 dv2 dv3 dv4 dv5 dv6 dv7 dv8 dv9 dv10 dvA dvN dvAll C_fz fzr
/-- A truth with its outcome: the cells; all of them. -/
def toldC (d : Div) (t : List Int) : List RV := ints .u8 (t ++ [outcomeI d (numsL d t)])
def toldsC (d : Div) (l : List (List Int)) : List RV := l.flatMap (toldC d)
theorem toldC_len (d : Div) {t : List Int} (h : t.length = 40) : (toldC d t).length = 41 := by unfold toldC; rw [ints_len]; simp [h]
theorem toldsC_len (d : Div) : ∀ {l : List (List Int)}, (∀ t ∈ l, t.length = 40) → (toldsC d l).length = l.length * 41
  | [], _ => rfl
  | t :: l, h => by
    have h1 := toldsC_len d (l := l) fun x hx => h x (by simp [hx])
    have h2 := toldC_len d (h t (by simp))
    unfold toldsC at h1 ⊢
    rw [List.flatMap_cons, List.length_append, h1, h2, List.length_cons, Nat.add_mul]; omega
def lpT (d : Div) (L : Nat) (R : List RV) : Lp (List (List Int)) where
  E := [(1, .own L 0 0), (2, .own (L + 1) 0 0), (5, .r (.fn fn_tally_looked_truths_1 [] [.ptr R]))]
  pt := 6
  tt := 3
  bd := b_tally_looked_all_0
  k := 2
  P := fun _ v => [.cells (rs R) ty_tally_looked 0, .cells [v] ty_Stally_told 0]
  T := ty_tally_told
  sz := 41
  cs := toldsC d
  nn := List.length
  jb := 1
  Tb := ty_Stally_told
  alive := fun _ => true
  rank := List.length
  N := 10000
  step := fun s t => (s ++ [t], true)
section
variable {d : Div} {a0 a1 n0 n1 p q : RV}
theorem told_ok (hs : DivS d a0 a1 n0 n1 p q) (hr : rightB d = true) (h0 : 0 ≤ d.rule) (m : Mem) {R : List RV} (hR : R = lookC d (divC d a0 a1 n0 n1 p q)) : (lpT d m.h.length R).Ok m where
  len := fun _ _ => rfl
  al := fun s t => rfl
  rk := fun s t => by simp [lpT]
  jb := by show 1 < 2; omega
  body := by
    intro s v t Hb W X _ hrk ht htk hG hX1 hX2 hT
    have hrk : s.length < 10000 := hrk
    have htk : Hb.take (m.h.length + 4) = (lpT d m.h.length R).low m s v .busy none := htk
    have hG : GS Hb (m.h.length + 4) ty_tally_told 41 (toldsC d s) s.length v := hG
    have lR : R.length = 91 := by rw [hR]; exact lookC_len
    have tR : List.take 91 (rs R) = rs R := List.take_of_length_le (by rw [rs_len]; omega)
    have l40 : (ints .u8 t).length = 40 := by rw [ints_len]; exact ht.1
    have t40 : List.take 40 (rs (ints .u8 t)) = rs (ints .u8 t) := List.take_of_length_le (by rw [rs_len]; omega)
    have gX : Hb[m.h.length]? = some (.cells (rs R) ty_tally_looked 0) := by have := pre_get (k := 0) htk (by omega) rfl; simpa using this
    have gV : Hb[m.h.length + 1]? = some (.cells [v] ty_Stally_told 0) := pre_get htk (by omega) rfl
    have hlen : m.h.length + 4 ≤ Hb.length := by
      have := congrArg List.length htk
      rw [List.length_take] at this
      have h2 : ((lpT d m.h.length R).low m s v .busy none).length = m.h.length + 4 := by simp [Lp.low, lpT]
      omega
    have hnl := nums_le hr t
    obtain ⟨c1, k1⟩ := numbers_spec hs hr ht.1 { h := Hb }
    obtain ⟨c2, k2⟩ := outcome_spec (a0 := a0) (a1 := a1) (n0 := n0) (n1 := n1) (p := p) (q := q) hr h0 (numsL d t) hnl.1 hnl.2 { h := Hb }
    rw [← hR] at k1 k2
    have hC := toldC_len d ht.1
    have hCs : rs (toldC d t) = rs (ints .u8 t) ++ [u8 (outcomeI d (numsL d t))] := by unfold toldC; simp [ints, rs]
    obtain ⟨Cc, hCc⟩ : ∃ Cc, Cc = toldC d t := ⟨_, rfl⟩
    obtain ⟨o, ho⟩ : ∃ o, o = outcomeI d (numsL d t) := ⟨_, rfl⟩
    obtain ⟨n, hn⟩ : ∃ n, n = numsL d t := ⟨_, rfl⟩
    obtain ⟨I, hI⟩ : ∃ I, I = ints .u8 t := ⟨_, rfl⟩
    have hsC : (lpT d m.h.length R).cs ((lpT d m.h.length R).step s t).1 = toldsC d s ++ Cc := by
      show toldsC d (s ++ [t]) = _
      unfold toldsC
      rw [List.flatMap_append, hCc]; simp
    rw [← ho] at k2 hCs
    rw [← hn] at k1 k2
    rw [← hI] at k1 hT l40 t40 hCs ⊢
    rw [← hCc] at hC hCs
    simp only [nmR] at k2
    obtain ⟨B, g, H', W', hA, hB, hG2, hfr, hBx, hl2, hkt, hW'⟩ := hG.app2 (new := Cc) (k := 1) [] 41 (some 1) hlen (by omega) (by omega) ⟨by omega, by omega⟩
    have gV' : H'[m.h.length + 1]? = some (.cells [v] ty_Stally_told 0) := by rw [take_get hkt (by omega), List.getElem?_take_of_lt (by omega)]; exact gV
    obtain ⟨H2, hH2⟩ : ∃ H2, H2 = H'.set (m.h.length + 1) (.cells [.osl B g 0 (s.length + 1) 41 none] ty_Stally_told 0) := ⟨_, rfl⟩
    have hwa : apartL (wrAll Hb.length { h := H', wr := W' }) [] = true := by unfold apartL; simp
    have hmk1 : mkAgg (rs I ++ [u8 o]) = .r (.agg Cc) := by rw [← hCs, mkAgg_rs]
    have hZl : (rs z_tally_told).length = 41 := by rw [rs_len]; rfl
    have hf1 : fill (rs z_tally_told) [(0, 40, .r (.agg I)), (40, 1, u8 o)] = some (rs Cc) := by
      have h1 : (rs I).length = 40 := by rw [rs_len]; exact l40
      have h2 : List.drop 40 (rs z_tally_told) = [.r (.lit (.int .u8 0))] := by rfl
      simp [fill, h1, hZl, setN, hCs, l40, rs_len, h2, List.take_of_length_le, List.take_append_of_le_length]
    have hf2 : fill (rs (repl z_tally_told 1)) [(0, 41, .r (.agg Cc))] = some (rs Cc) := by
      have h1 : (rs (repl z_tally_told 1)).length = 41 := by rw [rs_len]; rfl
      have h2 : List.drop 41 (rs (repl z_tally_told 1)) = [] := List.drop_eq_nil_of_le (by omega)
      simp [fill, h1, setN, rs_len, hC, h2]
    have hs2 : ∃ s2, Den C (lpT d m.h.length R).bd { env := ((lpT d m.h.length R).tt, .own X 0 0) :: ((lpT d m.h.length R).pt, .r (.agg I)) :: (lpT d m.h.length R).E, m := { h := Hb, wr := W }, round := some (m.h.length + 2 + 1) } .norm s2 ∧ s2.m.h = H2 ∧ s2.m.wr = (m.h.length + 1) :: (W' ++ W) := by
      refine ⟨_, .ofN ⟨c1 + c2, fun k hk => by
        simp [lpT, b_tally_looked_all_0, -fill, dn_drawF, denF, denFI, stepF, slotFree, slotOf, foot, avIdx, pairsOk, apartL_nil, wrAll_self, gX, gV, hT, rs_len, lR, tR, l40, t40, k1 k (by omega), k2 k (by omega), hf1, hf2, allR_rs, hC, hA, gV', ← hH2, hwa]
        rfl⟩, rfl, rfl⟩
    obtain ⟨s2, k4, m4, w4⟩ := hs2
    refine ⟨s2, .norm, .osl B g 0 (s.length + 1) 41 none, k4, .inl ⟨rfl, rfl⟩, ?_, ?_, ?_, ?_, ?_, ?_, .inr ⟨by rw [w4]; simp [lpT], rfl⟩⟩
    · rw [m4]
      show H2.take (m.h.length + 4) = _
      rw [hH2, List.take_set, hkt, htk]
      unfold Lp.low
      rw [List.append_assoc, List.append_assoc, set_mid]; rfl
    · rw [m4, hsC]
      show GS H2 (m.h.length + 4) ty_tally_told 41 (toldsC d s ++ Cc) (s ++ [t]).length _
      rw [show (s ++ [t]).length = s.length + 1 by simp]
      exact hG2.same fun j hj => by
        have := (hG2.idx j hj).1
        rw [hH2, List.getElem?_set_ne (by omega)]
    · intro j h1 h2 h3
      have h1 : m.h.length + 4 ≤ j := h1
      rw [m4, hH2, List.getElem?_set_ne (by omega)]
      exact hfr j h2 h3
    · rw [m4, hH2, List.length_set]; exact hl2
    · intro x hx
      rw [w4] at hx
      rcases List.mem_cons.1 hx with rfl | hx
      · exact .inr (by omega)
      · rcases List.mem_append.1 hx with hx | hx
        · rcases hW' x hx with h | h
          · cases h
          · exact .inr (by omega)
        · exact .inl hx
    · intro j hj
      simp [avIdx] at hj
      subst hj
      rcases hBx with h | h
      · exact .inl h
      · exact .inr (by omega)
theorem told_fold (d : Div) : ∀ (l s : List (List Int)), (foldS (fun (s : List (List Int)) t => (s ++ [t], true)) s l).1 = s ++ l
  | [], s => by simp [foldS]
  | t :: l, s => by
    rw [foldS_cons]
    simp only [if_true]
    rw [told_fold d l]; simp
theorem truthsOf_len {d : Div} (h : d.n ≤ 40) : ∀ t ∈ truthsOf d, t.length = 40 := by
  rw [truthsOf_rt h]
  intro t ht
  obtain ⟨u, hu, rfl⟩ := List.mem_map.1 ht
  have := rtF_len _ _ _ hu
  unfold pad
  simp at this ⊢; omega
/-- All truths with their outcomes. -/
def allV (d : Div) : RV := .sl (toldsC d (truthsOf d)) (truthsOf d).length none
theorem all_told_spec (hs : DivS d a0 a1 n0 n1 p q) (hru : 0 ≤ d.rule) (e : openI d = 0) (m : Mem) : CallR C (fnv fn_tally_looked_all) [.r (.agg (lookC d (divC d a0 a1 n0 n1 p q)))] m (.ret (.r (allV d)) m) := by
  obtain ⟨R, hRR⟩ : ∃ R, R = lookC d (divC d a0 a1 n0 n1 p q) := ⟨_, rfl⟩
  have lR : R.length = 91 := by rw [hRR]; exact lookC_len
  have hRt : List.take 91 (rs R) = rs R := List.take_of_length_le (by rw [rs_len]; omega)
  obtain ⟨hr, -, -⟩ := openI0 e
  have hn := right_n hr
  have hok := told_ok hs hr hru m hRR
  obtain ⟨H', W', v, ⟨c2, k2⟩, htk, hG, hw⟩ := Lp.range hok (by show 3 ≠ 6; omega) hn (R := R) (fun m => by rw [hRR]; exact lookC_p0 m) (fun m k h1 h2 => by rw [hRR]; exact lookC_pm m k h1 h2) (q := 5) rfl [] rfl (by show 0 + (truthsOf d).length ≤ 10000; have := truthsOf_count e; omega) rfl rfl []
  have hF : (foldS (lpT d m.h.length R).step [] (truthsOf d)).1 = truthsOf d := told_fold d (truthsOf d) []
  rw [hF] at htk hG k2
  have k2 : ∀ k, c2 ≤ k → den (Kn C k) (.rangeF (.t 5) [6] s_tally_looked_all_0 b_tally_looked_all_0) { env := [(1, .own m.h.length 0 0), (2, .own (m.h.length + 1) 0 0), (5, .r (.fn fn_tally_looked_truths_1 [] [.ptr R]))], m := { h := m.h ++ [.cells (rs R) ty_tally_looked 0, .cells [.r .nil] ty_Stally_told 0], wr := [] } } = some (.norm, { env := [(1, .own m.h.length 0 0), (2, .own (m.h.length + 1) 0 0), (5, .r (.fn fn_tally_looked_truths_1 [] [.ptr R]))], m := { h := H', wr := W' }, defs := [.dfr (m.h.length + 2)] }) := k2
  have htk : H'.take (m.h.length + 4) = m.h ++ [.cells (rs R) ty_tally_looked 0, .cells [v] ty_Stally_told 0] ++ [.dfr, .dead] := htk
  have hG : GS H' (m.h.length + 4) ty_tally_told 41 (toldsC d (truthsOf d)) (truthsOf d).length v := hG
  have hlt : ∀ j, j < 4 → m.h.length + j < H'.length := fun j hj => by
    have := congrArg List.length htk
    rw [List.length_take] at this
    simp at this; omega
  have g1 : H'[m.h.length + 1]? = some (.cells [v] ty_Stally_told 0) := by rw [take_get htk (by omega), List.append_assoc, get_midk]; rfl
  have g2 : H'[m.h.length + 2]? = some .dfr := by rw [take_get htk (by omega), List.append_assoc, get_midk]; rfl
  have ht : H'.take m.h.length = m.h := by
    have := congrArg (List.take m.h.length) htk
    rw [List.take_take, Nat.min_eq_left (by omega), List.append_assoc, List.take_left'] at this
    · exact this
    · rfl
  cases hG with
  | nil e1 e2 => exact absurd (List.length_eq_zero_iff.1 e1) (truthsOf_ne e)
  | osl B g h1 h2 h3 h4 =>
    have hcnt := truthsOf_count e
    obtain ⟨c4, k4⟩ := truths_spec lR { h := m.h ++ [.cells (rs R) ty_tally_looked 0, .cells [.r .nil] ty_Stally_told 0] }
    unfold allV
    obtain ⟨I, hI⟩ : ∃ I, I = toldsC d (truthsOf d) := ⟨_, rfl⟩
    obtain ⟨n, hnn⟩ : ∃ n, n = (truthsOf d).length := ⟨_, rfl⟩
    rw [← hI] at h2 h4 ⊢
    rw [← hnn] at h3 h4 g1 hcnt ⊢
    obtain ⟨H3, hH3⟩ : ∃ H3, H3 = H'.set (m.h.length + 1) (.cells [.osl B g 0 n 41 none] ty_Stally_told 0) := ⟨_, rfl⟩
    have g32 : H3[m.h.length + 2]? = some .dfr := by rw [hH3, List.getElem?_set_ne (by omega)]; exact g2
    obtain ⟨H4, hH4⟩ : ∃ H4, H4 = H3.set (m.h.length + 2) .dead := ⟨_, rfl⟩
    have g41 : H4[m.h.length + 1]? = some (.cells [.osl B g 0 n 41 none] ty_Stally_told 0) := by rw [hH4, List.getElem?_set_ne (by omega), hH3, List.getElem?_set_self (hlt 1 (by omega))]
    have g4 : H4[B]? = some (.cells (rs I) ty_tally_told g) := by rw [hH4, List.getElem?_set_ne (by omega), hH3, List.getElem?_set_ne (by omega)]; exact h2
    have hz : ∀ W, fz { h := H4, wr := W } m.h.length 1000000 (.osl B g 0 n 41 none) = some (.r (.sl I n none)) := fun W => fz_osl (t := ty_tally_told) g4 (by omega) h4 (by omega)
    refine CallR.eval (m1 := { h := H4, wr := (m.h.length + 2) :: (m.h.length + 1) :: W' }) rfl rfl prog_tally_looked_all rfl ⟨c2 + c4, fun k hk => ?_⟩ (by rw [hH4, List.take_set_of_le (by omega), hH3, List.take_set_of_le (by omega)]; exact ht) (by
      intro x hx
      rcases List.mem_cons.1 hx with rfl | hx
      · omega
      · rcases List.mem_cons.1 hx with rfl | hx
        · omega
        · rcases hw x hx with h | h
          · cases h
          · exact h)
    rw [← hRR]
    simp [a_tally_looked_all, rs_len, lR, hRt, k4 k (by omega), k2 k (by omega), g1, ← hH3, g32, ← hH4, g41, hz]
end
end Go.AM.T
/- What the functions compute (own work). -/
namespace Go.AM.T
open Go Go.AM
attribute [local simp] so_mov so_pick so_alloc so_box so_build so_slit so_load so_store so_nilc so_bin so_beq so_eqs so_eqn so_eqnl so_not so_conv so_s2b so_mkfn so_slcA so_padd so_fld so_idxA so_idxV so_idxT so_look so_mupd so_mkmap so_mksl so_ext so_app so_lenT so_lenM so_min so_max so_cpy so_clr so_mkif so_tass so_lenS so_idxS so_slc
attribute [local simp] dn_skip dn_label dn_ret dn_exit dn_scope dn_keep dn_reg dn_draw0 noSlots denE denEI stepE  sd_mov sd_pick sd_build sd_load sd_store sd_nilc sd_bin sd_beq sd_eqs sd_eqn sd_eqnl sd_not sd_conv sd_s2b sd_mkfn sd_slc sd_slcA sd_padd sd_fld sd_idxS sd_idxA sd_idxV sd_idxT sd_look sd_mupd sd_ext sd_app sd_lenS sd_lenT sd_lenM sd_min sd_max sd_mkif sd_tass sd_call sd_slit dn_seq dn_cond dn_block dn_loop kn_call denIs denI denOp wants ev eget putD binL enumFrom AV.bool? AV.int? ekeep evs evp runV fin runDefs resAll resOf tupOf unit AV.cells okV ok1 Value.oneCell' fill setN rcells rs_nil rs_cons load_own load_cons mkAgg_rs storeN jmpOut
attribute [local simp] dvL dv1t dvAt mkAgg2 dv0 dv1 dv2 dv3 dv4 dv5 dv6 dv7 dv8 dv9 dv10 dvA dvN dvAll C_fz fzr
/-- A map whose keys are answers. -/
def mapC (es : List (List Int × Int)) : List (RV × AV) := es.map fun e => (.agg (ints .u8 e.1), u8 e.2)
def lkA (a : List Int) : List (List Int × Int) → Nat → Option (Nat × Int)
  | [], _ => none
  | (b, o) :: es, i => if a = b then some (i, o) else lkA a es (i + 1)
theorem rvEqs_ints : ∀ (n : Nat) (a b : List Int), a.length = n → b.length = n → rvEqs (List.replicate n .i) (ints .u8 a) (ints .u8 b) = some (decide (a = b))
  | 0, [], [], _, _ => rfl
  | n + 1, x :: a, y :: b, ha, hb => by
    have ih := rvEqs_ints n a b (by simpa using ha) (by simpa using hb)
    rw [List.replicate_succ]
    show (match rvEq .i (.lit (.int .u8 x)) (.lit (.int .u8 y)), rvEqs (List.replicate n .i) (ints .u8 a) (ints .u8 b) with | some a, some b => some (a && b) | _, _ => none) = _
    rw [ih]
    simp only [rvEq, if_true]
    by_cases h1 : x = y <;> by_cases h2 : a = b <;> simp [h1, h2]
theorem findK_lk {a : List Int} (ha : a.length = 40) : ∀ (es : List (List Int × Int)) (i : Nat), (∀ e ∈ es, e.1.length = 40) → findK (some 40) (.agg (ints .u8 a)) (mapC es) i = some ((lkA a es i).map fun x => (x.1, u8 x.2))
  | [], i, _ => by
    show (if keyOk (some 40) (.agg (ints .u8 a)) then some none else none) = _
    rw [if_pos (by simp [keyOk, ints_len, ha])]; rfl
  | (b, o) :: es, i, h => by
    have ih := findK_lk ha es (i + 1) fun e he => h e (by simp [he])
    show (match keyEq (some 40) (.agg (ints .u8 a)) (.agg (ints .u8 b)) with | some true => some (some (i, u8 o)) | some false => findK (some 40) (.agg (ints .u8 a)) (mapC es) (i + 1) | none => none) = _
    unfold keyEq
    simp only
    rw [rvEqs_ints 40 a b ha (h (b, o) (by simp))]
    unfold lkA
    by_cases e : a = b
    · simp [e]
    · simp [e, ih]
theorem lkA_set {a : List Int} : ∀ (es : List (List Int × Int)) (i j : Nat) (o : Int), lkA a es i = some (j, o) → ∃ k, j = i + k ∧ es[k]? = some (a, o)
  | [], _, _, _, h => by simp [lkA] at h
  | (b, o') :: es, i, j, o, h => by
    unfold lkA at h
    by_cases e : a = b
    · rw [if_pos e] at h; cases h; exact ⟨0, rfl, by simp [e]⟩
    · rw [if_neg e] at h
      obtain ⟨k, h1, h2⟩ := lkA_set es (i + 1) j o h
      exact ⟨k + 1, by omega, by simpa using h2⟩
theorem mapC_set {a : List Int} {es : List (List Int × Int)} {j : Nat} {o : Int} (h : lkA a es 0 = some (j, o)) : (mapC es).set j (.agg (ints .u8 a), u8 o) = mapC es := by
  obtain ⟨k, h1, h2⟩ := lkA_set es 0 j o h
  have : j = k := by omega
  subst this
  refine set_same ?_
  unfold mapC
  rw [List.getElem?_map, h2]; rfl
/-- What some members answer in a truth. -/
def ansF (t : List Int) : List Int → List Int → List Int
  | [], a => a
  | m :: ms, a => ansF t ms (a.set m.toNat (t.getD m.toNat 0))
theorem ansF_len (t : List Int) : ∀ (ms a : List Int), (ansF t ms a).length = a.length
  | [], _ => rfl
  | m :: ms, a => by unfold ansF; rw [ansF_len t ms]; simp
def decF : List (List Int × Int) → List (List Int × Int) → Bool
  | _, [] => true
  | es, (a, o) :: r => match lkA a es 0 with
    | some (_, k) => if k = o then decF es r else false
    | none => decF (es ++ [(a, o)]) r
section
variable {ms t : List Int} {v : AV} {T8 T9 : Nat} {o : Int}
theorem dec_inner (hms : ∀ x ∈ ms, 0 ≤ x ∧ x < 40) (hn : ms.length < 2 ^ 62) (ht : t.length = 40) {H : List Blk} {M0 : List Blk} (hA : ∀ H' : List Blk, H'.take M0.length = M0 → Arr .i64 H' v ms) (h8 : H[T8]? = some (.cells (rs (ints .u8 (t ++ [o]))) ty_tally_told 0)) (h9 : T9 < H.length) (h89 : T8 ≠ T9) (hM : H.take M0.length = M0) (hM9 : M0.length ≤ T9) {mp sb tv tn ti : AV} :
    ∀ (k j : Nat) (acc : List Int) (s : St), j + k = ms.length → acc.length = 40 → ekeep [1, 5, 6, 8, 9, 15, 16, 17, 21, 22, 23] s.env = [(1, v), (5, mp), (6, sb), (8, .own T8 0 0), (9, .own T9 0 0), (15, tv), (16, tn), (17, ti), (21, v), (22, i64 ms.length), (23, i64 j)] →
      s.m.h = H.set T9 (.cells (rs (ints .u8 acc)) ty_tally_truth 0) → (∀ x ∈ s.m.wr, M0.length ≤ x) → s.defs = [] →
      ∃ s', Loop C [1, 5, 6, 8, 9, 15, 16, 17, 21, 22, 23] l_tally_decide_0 s (.exit 2) s' ∧ s'.m.h = H.set T9 (.cells (rs (ints .u8 (ansF t (ms.drop j) acc))) ty_tally_truth 0) ∧ (∀ x ∈ s'.m.wr, M0.length ≤ x) ∧ s'.defs = [] ∧
        ekeep [1, 5, 6, 8, 9, 15, 16, 17] s'.env = [(1, v), (5, mp), (6, sb), (8, .own T8 0 0), (9, .own T9 0 0), (15, tv), (16, tn), (17, ti)] := by
  intro k
  induction k with
  | zero =>
    intro j acc s hj hacc he hm hw hd
    have e0 : ((j : Int) < (ms.length : Int)) = False := eq_false (by omega)
    have : ms.drop j = [] := List.drop_eq_nil_of_le (by omega)
    rw [this]
    exact ⟨_, .stop (.of fun K => by rw [he]; simp [l_tally_decide_0, e0]; rfl) (by simp), by simp [hm, ansF], by simpa using hw, by simp [hd], by simp⟩
  | succ k ih =>
    intro j acc s hj hacc he hm hw hd
    obtain ⟨M, hMM⟩ : ∃ M, M = s.m := ⟨_, rfl⟩
    obtain ⟨h, w⟩ := M
    rw [← hMM] at hm hw
    simp only at hm hw
    have e0 : ((j : Int) < (ms.length : Int)) = True := eq_true (by omega)
    have w1 : IntKind.wrap .i64 ((j : Int) + 1) = j + 1 := by rw [w64] <;> omega
    have hjl : j < ms.length := by omega
    obtain ⟨a, ha, hld⟩ := (hA (H.set T9 (.cells (rs (ints .u8 acc)) ty_tally_truth 0)) (by rw [List.take_set_of_le hM9]; exact hM)).el j hjl
    have hld := hld w
    rw [getD_get hjl] at hld
    obtain ⟨x, hx⟩ : ∃ x, x = ms[j] := ⟨_, rfl⟩
    have hxr := hms ms[j] (List.getElem_mem hjl)
    rw [← hx] at hld hxr
    have e1 : (0 ≤ x) = True := eq_true hxr.1
    have e2 : (x < 40) = True := eq_true hxr.2
    have hdrop : ms.drop j = x :: ms.drop (j + 1) := by rw [hx]; exact List.drop_eq_getElem_cons hjl
    have g8 : (H.set T9 (.cells (rs (ints .u8 acc)) ty_tally_truth 0))[T8]? = some (.cells (rs (ints .u8 (t ++ [o]))) ty_tally_told 0) := by rw [List.getElem?_set_ne (by omega)]; exact h8
    have g9 : (H.set T9 (.cells (rs (ints .u8 acc)) ty_tally_truth 0))[T9]? = some (.cells (rs (ints .u8 acc)) ty_tally_truth 0) := List.getElem?_set_self h9
    have hl8 : (rs (ints .u8 (t ++ [o]))).length = 41 := by rw [rs_len, ints_len]; simp [ht]
    have hl9 : (rs (ints .u8 acc)).length = 40 := by rw [rs_len, ints_len, hacc]
    have hxn : x.toNat < 40 := by omega
    have t8 := take_one_ints (k := .u8) (l := t ++ [o]) (j := x.toNat) (by simp; omega)
    have hg8 : (t ++ [o]).getD x.toNat 0 = t.getD x.toNat 0 := by
      rw [getD_get (by simp; omega), getD_get (by omega), List.getElem_append_left]
    rw [hg8] at t8
    obtain ⟨y, hy⟩ : ∃ y, y = t.getD x.toNat 0 := ⟨_, rfl⟩
    rw [← hy] at t8
    have p9 := put_ints (k := .u8) (l := acc) (j := x.toNat) (by omega) y
    have o8 : (x.toNat + 1 ≤ 41) = True := eq_true (by omega)
    have o9 : (x.toNat + 1 ≤ 40) = True := eq_true (by omega)
    obtain ⟨s', h1, h2, h3, h4, h5⟩ := ih (j + 1) (acc.set x.toNat y) { s with env := [(1, v), (5, mp), (6, sb), (8, .own T8 0 0), (9, .own T9 0 0), (15, tv), (16, tn), (17, ti), (21, v), (22, i64 ms.length), (23, i64 (j + 1 : Nat))], m := { h := H.set T9 (.cells (rs (ints .u8 (acc.set x.toNat y))) ty_tally_truth 0), wr := T9 :: w } } (by omega) (by simp [hacc]) (by simp) rfl (by
      intro z hz
      rcases List.mem_cons.1 hz with rfl | hz
      · exact hM9
      · exact hw z hz) hd
    have hans : ansF t (ms.drop j) acc = ansF t (ms.drop (j + 1)) (acc.set x.toNat y) := by rw [hdrop, hy]; rfl
    obtain ⟨I8, hI8⟩ : ∃ I, I = ints .u8 (t ++ [o]) := ⟨_, rfl⟩
    obtain ⟨I9, hI9⟩ : ∃ I, I = ints .u8 acc := ⟨_, rfl⟩
    obtain ⟨I2, hI2⟩ : ∃ I, I = ints .u8 (acc.set x.toNat y) := ⟨_, rfl⟩
    rw [← hI8] at g8 hl8 t8
    rw [← hI9] at hm g8 g9 hl9 p9 hld
    rw [← hI2] at p9 h1
    refine ⟨s', .more (.of fun K => ?_) h1, by rw [hans]; exact h2, h3, h4, h5⟩
    rw [he]
    simp [l_tally_decide_0, ← hMM, hm, e0, e1, e2, w1, ha, hld, g8, g9, hl8, hl9, o8, o9, t8, p9]
end
end Go.AM.T
/- What the functions compute (own work). -/
namespace Go.AM.T
open Go Go.AM
attribute [local simp] so_mov so_pick so_alloc so_box so_build so_slit so_load so_store so_nilc so_bin so_beq so_eqs so_eqn so_eqnl so_not so_conv so_s2b so_mkfn so_slcA so_padd so_fld so_idxA so_idxV so_idxT so_look so_mupd so_mkmap so_mksl so_ext so_app so_lenT so_lenM so_min so_max so_cpy so_clr so_mkif so_tass so_lenS so_idxS so_slc
attribute [local simp] dn_skip dn_label dn_ret dn_exit dn_scope dn_keep dn_reg dn_draw0 noSlots denE denEI stepE  sd_mov sd_pick sd_build sd_load sd_store sd_nilc sd_bin sd_beq sd_eqs sd_eqn sd_eqnl sd_not sd_conv sd_s2b sd_mkfn sd_slc sd_slcA sd_padd sd_fld sd_idxS sd_idxA sd_idxV sd_idxT sd_look sd_mupd sd_ext sd_app sd_lenS sd_lenT sd_lenM sd_min sd_max sd_mkif sd_tass sd_call sd_slit dn_seq dn_cond dn_block dn_loop kn_call denIs denI denOp wants ev eget putD binL enumFrom AV.bool? AV.int? ekeep evs evp runV fin runDefs resAll resOf tupOf unit AV.cells okV ok1 Value.oneCell' fill setN rcells rs_nil rs_cons load_own load_cons mkAgg_rs storeN jmpOut
attribute [local simp] dvL dv1t dvAt mkAgg2 dv0 dv1 dv2 dv3 dv4 dv5 dv6 dv7 dv8 dv9 dv10 dvA dvN dvAll C_fz fzr
/-- What members answer, with the outcome, for some truths. -/
def ansO (d : Div) (ms : List Int) (ts : List (List Int)) : List (List Int × Int) := ts.map fun t => (ansF t ms (List.replicate 40 0), outcomeI d (numsL d t))
/-- Are the votes of some members enough? -/
def decB (d : Div) (ms : List Int) : Bool := decF [] (ansO d ms (truthsOf d))
theorem toldsC_at (d : Div) : ∀ (ts : List (List Int)) (i : Nat) (hi : i < ts.length), (∀ t ∈ ts, t.length = 40) → List.take 41 (List.drop (i * 41) (toldsC d ts)) = toldC d ts[i] ∧ 41 ≤ (List.drop (i * 41) (toldsC d ts)).length
  | t :: ts, 0, _, h => by
    have h1 := toldC_len d (h t (by simp))
    unfold toldsC
    rw [List.flatMap_cons, Nat.zero_mul, List.drop_zero]
    refine ⟨?_, by simp; omega⟩
    rw [List.take_append_of_le_length (by omega), List.take_of_length_le (by omega)]; rfl
  | t :: ts, i + 1, hi, h => by
    have h1 := toldC_len d (h t (by simp))
    have ih := toldsC_at d ts i (by simpa using hi) fun x hx => h x (by simp [hx])
    unfold toldsC at ih ⊢
    rw [List.flatMap_cons, show (i + 1) * 41 = (toldC d t).length + i * 41 by omega, List.drop_append]
    have e1 : (toldC d t).length + i * 41 - (toldC d t).length = i * 41 := by omega
    rw [List.drop_eq_nil_of_le (by omega), List.nil_append, e1]
    exact ih
section
variable {d : Div} {ms : List Int} {v : AV}
theorem dec_outer (hms : ∀ x ∈ ms, 0 ≤ x ∧ x < 40) (hn : ms.length < 2 ^ 62) {ts : List (List Int)} (hts : ∀ t ∈ ts, t.length = 40) (hcnt : ts.length < 2 ^ 62) {M0 : List Blk} (hA : ∀ H' : List Blk, H'.take M0.length = M0 → Arr .i64 H' v ms) (hAl : lenOf v = some ms.length) (cap : Option Nat) :
    ∀ (k i : Nat) (es : List (List Int × Int)) (s : St), i + k = ts.length → (∀ e ∈ es, e.1.length = 40) → ekeep [1, 5, 6, 15, 16, 17] s.env = [(1, v), (5, .omap M0.length), (6, bo true), (15, .r (.sl (toldsC d ts) ts.length cap)), (16, i64 ts.length), (17, i64 i)] →
      s.m.h.take (M0.length + 1) = M0 ++ [.map (mapC es)] → (∀ x ∈ s.m.wr, M0.length ≤ x) → s.defs = [] →
      ∃ s', Loop C [1, 5, 6, 15, 16, 17] l_tally_decide_1 s (.exit 0) s' ∧ eget s'.env 6 = bo (decF es (ansO d ms (ts.drop i))) ∧ s'.m.h.take M0.length = M0 ∧ (∀ x ∈ s'.m.wr, M0.length ≤ x) ∧ s'.defs = [] := by
  intro k
  induction k with
  | zero =>
    intro i es s hi hes he hm hw hd
    have e0 : ((i : Int) < (ts.length : Int)) = False := eq_false (by omega)
    have : ts.drop i = [] := List.drop_eq_nil_of_le (by omega)
    rw [this]
    refine ⟨_, .stop (.of fun K => by rw [he]; simp [l_tally_decide_1, e0]; rfl) (by simp), by simp [ansO, decF], ?_, by simpa using hw, by simp [hd]⟩
    have := congrArg (List.take M0.length) hm
    rw [List.take_take, Nat.min_eq_left (by omega), List.take_left'] at this
    · simpa using this
    · rfl
  | succ k ih =>
    intro i es s hi hes he hm hw hd
    obtain ⟨M, hMM⟩ : ∃ M, M = s.m := ⟨_, rfl⟩
    obtain ⟨H, W⟩ := M
    rw [← hMM] at hm hw
    simp only at hm hw
    have e0 : ((i : Int) < (ts.length : Int)) = True := eq_true (by omega)
    have w1 : IntKind.wrap .i64 ((i : Int) + 1) = i + 1 := by rw [w64] <;> omega
    have hil : i < ts.length := by omega
    obtain ⟨t, ht⟩ : ∃ t, t = ts[i] := ⟨_, rfl⟩
    have ht40 : t.length = 40 := by rw [ht]; exact hts _ (List.getElem_mem hil)
    have hdrop : ts.drop i = t :: ts.drop (i + 1) := by rw [ht]; exact List.drop_eq_getElem_cons hil
    obtain ⟨hta, htl⟩ := toldsC_at d ts i hil hts
    rw [← ht] at hta
    have hC := toldC_len d ht40
    obtain ⟨o, ho⟩ : ∃ o, o = outcomeI d (numsL d t) := ⟨_, rfl⟩
    have hCs : toldC d t = ints .u8 (t ++ [o]) := by rw [ho]; rfl
    have hHl : M0.length + 1 ≤ H.length := by
      have := congrArg List.length hm
      rw [List.length_take] at this
      simp at this; omega
    have hat : atOf 41 (.r (.sl (toldsC d ts) ts.length cap)) (i : Int) = some (.r (.ptr (List.drop (i * 41) (toldsC d ts)))) := by
      simp only [atOf]; rw [if_pos ⟨by omega, by omega⟩]; simp
    obtain ⟨H2, hH2⟩ : ∃ H2, H2 = H ++ [.cells (rs (toldC d t)) ty_tally_told 0, .cells (rs z_tally_truth) ty_tally_truth 0] := ⟨_, rfl⟩
    have hl2 : H2.length = H.length + 2 := by simp [hH2]
    have hM : H.take M0.length = M0 := by
      have := congrArg (List.take M0.length) hm
      rw [List.take_take, Nat.min_eq_left (by omega), List.take_left'] at this
      · exact this
      · rfl
    have hM2 : H2.take M0.length = M0 := by rw [hH2, List.take_append_of_le_length (by omega)]; exact hM
    have hm2 : H2.take (M0.length + 1) = M0 ++ [.map (mapC es)] := by rw [hH2, List.take_append_of_le_length (by omega)]; exact hm
    have g8 : H2[H.length]? = some (.cells (rs (ints .u8 (t ++ [o]))) ty_tally_told 0) := by rw [hH2, hCs]; simp
    have g9 : H2[H.length + 1]? = some (.cells (rs z_tally_truth) ty_tally_truth 0) := by simp [hH2]
    obtain ⟨s2, l2, m2, w2, d2, e2⟩ := dec_inner (T8 := H.length) (T9 := H.length + 1) (o := o) hms hn ht40 (H := H2) hA g8 (by omega) (by omega) hM2 (by omega) (mp := .omap M0.length) (sb := bo true) (tv := .r (.sl (toldsC d ts) ts.length cap)) (tn := i64 ts.length) (ti := i64 i)
      ms.length 0 (List.replicate 40 0) { s with env := [(23, i64 0), (22, i64 ms.length), (21, v), (9, .own (H.length + 1) 0 0), (1, v), (5, .omap M0.length), (6, bo true), (8, .own H.length 0 0), (15, .r (.sl (toldsC d ts) ts.length cap)), (16, i64 ts.length), (17, i64 i)], m := { h := H2, wr := H.length :: W } } (by omega) (by simp) (by simp) (by rw [truth_zero] at g9; exact (set_same g9).symm) (by
        intro z hz
        rcases List.mem_cons.1 hz with rfl | hz
        · omega
        · exact hw z hz) hd
    obtain ⟨c2, k2⟩ := l2.get
    rw [List.drop_zero] at m2
    obtain ⟨A, hAA⟩ : ∃ A, A = ansF t ms (List.replicate 40 0) := ⟨_, rfl⟩
    have hA40 : A.length = 40 := by rw [hAA, ansF_len]; simp
    rw [← hAA] at m2
    obtain ⟨H3, hH3⟩ : ∃ H3, H3 = H2.set (H.length + 1) (.cells (rs (ints .u8 A)) ty_tally_truth 0) := ⟨_, rfl⟩
    rw [← hH3] at m2
    have hm3 : H3.take (M0.length + 1) = M0 ++ [.map (mapC es)] := by rw [hH3, List.take_set_of_le (by omega)]; exact hm2
    have gM : H3[M0.length]? = some (.map (mapC es)) := by rw [take_get hm3 (by omega)]; simp
    have g38 : H3[H.length]? = some (.cells (rs (ints .u8 (t ++ [o]))) ty_tally_told 0) := by rw [hH3, List.getElem?_set_ne (by omega)]; exact g8
    have g39 : H3[H.length + 1]? = some (.cells (rs (ints .u8 A)) ty_tally_truth 0) := by rw [hH3, List.getElem?_set_self (by omega)]
    have hfind := findK_lk hA40 es 0 hes
    have e2' : eget s2.env 1 = v ∧ eget s2.env 5 = .omap M0.length ∧ eget s2.env 6 = bo true ∧ eget s2.env 8 = .own H.length 0 0 ∧ eget s2.env 9 = .own (H.length + 1) 0 0 ∧ eget s2.env 15 = .r (.sl (toldsC d ts) ts.length cap) ∧ eget s2.env 16 = i64 ts.length ∧ eget s2.env 17 = i64 i := by simpa [ekeep] using e2
    obtain ⟨f1, f5, f6, f8, f9, f15, f16, f17⟩ := e2'
    have hl8 : (rs (ints .u8 (t ++ [o]))).length = 41 := by rw [rs_len, ints_len]; simp [ht40]
    have hl9 : (rs (ints .u8 A)).length = 40 := by rw [rs_len, ints_len, hA40]
    have t9 : List.take 40 (rs (ints .u8 A)) = rs (ints .u8 A) := List.take_of_length_le (by omega)
    have t8 : List.take 1 (List.drop 40 (rs (ints .u8 (t ++ [o])))) = [u8 o] := by
      rw [take_one_ints (by simp; omega)]; simp [List.getElem?_append_right, ht40]
    have hans : ansO d ms (ts.drop i) = (A, o) :: ansO d ms (ts.drop (i + 1)) := by rw [hdrop, hAA, ho]; rfl
    obtain ⟨TC, hTC⟩ : ∃ TC, TC = toldsC d ts := ⟨_, rfl⟩
    obtain ⟨I8, hI8⟩ : ∃ I, I = ints .u8 (t ++ [o]) := ⟨_, rfl⟩
    obtain ⟨I9, hI9⟩ : ∃ I, I = ints .u8 A := ⟨_, rfl⟩
    obtain ⟨w, hw2⟩ : ∃ w, w = s2.m.wr := ⟨_, rfl⟩
    have hsm : s2.m = { h := H3, wr := w } := by rw [← m2, hw2]
    rw [hCs] at hta hH2 hC
    rw [← hTC] at hta htl hat f15 k2
    rw [← hI8] at hta hH2 hC g38 hl8 t8
    rw [← hI9] at g39 hl9 t9 hfind
    rw [← hw2] at w2
    have hZl : (rs z_tally_told).length = 41 := by rw [rs_len]; rfl
    have hZd : List.drop 41 (rs z_tally_told) = [] := List.drop_eq_nil_of_le (by omega)
    have hset : ∀ b, (H ++ [Blk.cells (rs z_tally_told) ty_tally_told 0]).set H.length b = H ++ [b] := fun b => by simp
    have hget : (H ++ [Blk.cells (rs z_tally_told) ty_tally_told 0])[H.length]? = some (Blk.cells (rs z_tally_told) ty_tally_told 0) := by simp
    have hH2' : (H ++ [Blk.cells (rs I8) ty_tally_told 0]) ++ [.cells (rs z_tally_truth) ty_tally_truth 0] = H2 := by rw [hH2]; simp
    obtain ⟨ZT, hZT⟩ : ∃ ZT, ZT = rs z_tally_told := ⟨_, rfl⟩
    rw [← hZT] at hZl hZd hset hget
    rw [hans]
    have hwM : ∀ x ∈ w, M0.length ≤ x := w2
    have htl' : (41 ≤ TC.length - i * 41) = True := eq_true (by rw [List.length_drop] at htl; exact htl)
    cases hlk : lkA A es 0 with
    | none =>
      rw [hlk] at hfind
      have hdec : decF es ((A, o) :: ansO d ms (ts.drop (i + 1))) = decF (es ++ [(A, o)]) (ansO d ms (ts.drop (i + 1))) := by
        conv => lhs; unfold decF
        rw [hlk]
      have hmap : mapC es ++ [(.agg I9, u8 o)] = mapC (es ++ [(A, o)]) := by rw [hI9]; unfold mapC; simp
      obtain ⟨H4, hH4⟩ : ∃ H4, H4 = H3.set M0.length (.map (mapC (es ++ [(A, o)]))) := ⟨_, rfl⟩
      obtain ⟨s', h1, h2, h3, h4, h5⟩ := ih (i + 1) (es ++ [(A, o)]) { s2 with env := [(1, v), (5, .omap M0.length), (6, bo true), (15, .r (.sl TC ts.length cap)), (16, i64 ts.length), (17, i64 (i + 1 : Nat))], m := { h := H4, wr := M0.length :: w } } (by omega) (by
        intro x hx
        rcases List.mem_append.1 hx with hx | hx
        · exact hes x hx
        · simp at hx; subst hx; exact hA40) (by rw [hTC]; simp) (by
        show H4.take (M0.length + 1) = _
        rw [hH4, List.take_set, hm3]; simp) (by
        intro x hx
        rcases List.mem_cons.1 hx with rfl | hx
        · exact Nat.le_refl _
        · exact hwM x hx) d2
      rw [hdec]
      refine ⟨s', .more (.ofN ⟨c2, fun n hn' => ?_⟩) h1, h2, h3, h4, h5⟩
      have k2 := k2 n hn'
      rw [he, ← hTC]
      simp [l_tally_decide_1, ← hMM, e0, w1, hat, load_agg, htl', hta, hC, ← hZT, hZl, hZd, rs_len, ← hH2, hAl, k2, hsm, f1, f5, f6, f8, f9, f15, f16, f17, gM, g38, g39, hl8, hl9, t9, t8, hfind, hmap, ← hH4]
    | some x =>
      obtain ⟨j, q⟩ := x
      rw [hlk] at hfind
      by_cases hq : q = o
      · subst hq
        have hdec : decF es ((A, q) :: ansO d ms (ts.drop (i + 1))) = decF es (ansO d ms (ts.drop (i + 1))) := by
          conv => lhs; unfold decF
          rw [hlk]; simp
        have hmap : (mapC es).set j (.agg I9, u8 q) = mapC es := by rw [hI9]; exact mapC_set hlk
        have hsame : H3.set M0.length (.map (mapC es)) = H3 := set_same gM
        obtain ⟨s', h1, h2, h3, h4, h5⟩ := ih (i + 1) es { s2 with env := [(1, v), (5, .omap M0.length), (6, bo true), (15, .r (.sl TC ts.length cap)), (16, i64 ts.length), (17, i64 (i + 1 : Nat))], m := { h := H3, wr := M0.length :: w } } (by omega) hes (by rw [hTC]; simp) hm3 (by
          intro x hx
          rcases List.mem_cons.1 hx with rfl | hx
          · exact Nat.le_refl _
          · exact hwM x hx) d2
        rw [hdec]
        refine ⟨s', .more (.ofN ⟨c2, fun n hn' => ?_⟩) h1, h2, h3, h4, h5⟩
        have k2 := k2 n hn'
        rw [he, ← hTC]
        simp [l_tally_decide_1, ← hMM, e0, w1, hat, load_agg, htl', hta, hC, ← hZT, hZl, hZd, rs_len, ← hH2, hAl, k2, hsm, f1, f5, f6, f8, f9, f15, f16, f17, gM, g38, g39, hl8, hl9, t9, t8, hfind, hmap, hsame]
      · have hdec : decF es ((A, o) :: ansO d ms (ts.drop (i + 1))) = false := by
          unfold decF
          rw [hlk]; simp [hq]
        have hq' : (q == o) = false := by simpa using hq
        rw [hdec]
        have hMm : H3.take M0.length = M0 := by
          have := congrArg (List.take M0.length) hm3
          rw [List.take_take, Nat.min_eq_left (by omega), List.take_left'] at this
          · exact this
          · rfl
        have hst : ∃ s', Den C l_tally_decide_1 { s with env := ekeep [1, 5, 6, 15, 16, 17] s.env } (.exit 0) s' ∧ eget s'.env 6 = bo false ∧ s'.m = { h := H3, wr := w } ∧ s'.defs = [] := by
          exact ⟨_, .ofN ⟨c2, fun n hn' => by
            have k2 := k2 n hn'
            rw [he, ← hTC]
            simp [l_tally_decide_1, ← hMM, e0, w1, hat, load_agg, htl', hta, hC, ← hZT, hZl, hZd, rs_len, ← hH2, hAl, k2, hsm, f1, f5, f6, f8, f9, f15, f16, f17, gM, g38, g39, hl8, hl9, t9, t8, hfind, hq', hq]
            rfl⟩, by simp, by simp, by simp [d2]⟩
        obtain ⟨s', h1, h2, h3, h4⟩ := hst
        exact ⟨s', .stop h1 (by simp), h2, by rw [h3]; exact hMm, by rw [h3]; exact hwM, h4⟩
end
end Go.AM.T
/- What the functions compute (own work). -/
namespace Go.AM.T
open Go Go.AM
attribute [local simp] so_mov so_pick so_alloc so_box so_build so_slit so_load so_store so_nilc so_bin so_beq so_eqs so_eqn so_eqnl so_not so_conv so_s2b so_mkfn so_slcA so_padd so_fld so_idxA so_idxV so_idxT so_look so_mupd so_mkmap so_mksl so_ext so_app so_lenT so_lenM so_min so_max so_cpy so_clr so_mkif so_tass so_lenS so_idxS so_slc
attribute [local simp] dn_skip dn_label dn_ret dn_exit dn_scope dn_keep dn_reg dn_draw0 noSlots denE denEI stepE  sd_mov sd_pick sd_build sd_load sd_store sd_nilc sd_bin sd_beq sd_eqs sd_eqn sd_eqnl sd_not sd_conv sd_s2b sd_mkfn sd_slc sd_slcA sd_padd sd_fld sd_idxS sd_idxA sd_idxV sd_idxT sd_look sd_mupd sd_ext sd_app sd_lenS sd_lenT sd_lenM sd_min sd_max sd_mkif sd_tass sd_call sd_slit dn_seq dn_cond dn_block dn_loop kn_call denIs denI denOp wants ev eget putD binL enumFrom AV.bool? AV.int? ekeep evs evp runV fin runDefs resAll resOf tupOf unit AV.cells okV ok1 Value.oneCell' fill setN rcells rs_nil rs_cons load_own load_cons mkAgg_rs storeN jmpOut
attribute [local simp] dvL dv1t dvAt mkAgg2 dv0 dv1 dv2 dv3 dv4 dv5 dv6 dv7 dv8 dv9 dv10 dvA dvN dvAll C_fz fzr
section
variable {d : Div} {ms : List Int} {v : AV}
theorem decide_spec (hms : ∀ x ∈ ms, 0 ≤ x ∧ x < 40) (hn : ms.length < 2 ^ 62) (hd40 : d.n ≤ 40) (e : openI d = 0) (m : Mem) (hA : ∀ H' : List Blk, H'.take m.h.length = m.h → Arr .i64 H' v ms) : CallR C (fnv fn_tally_decide) [.r (allV d), v] m (.ret (bo (decB d ms)) m) := by
  have hcnt := truthsOf_count e
  have hts := truthsOf_len hd40
  obtain ⟨s, l1, h2, h3, h4, h5⟩ := dec_outer (d := d) hms hn hts (by omega) (M0 := m.h) hA (hA m.h (by simp)).len none (truthsOf d).length 0 [] { env := [(17, i64 0), (16, i64 (truthsOf d).length), (15, .r (allV d)), (6, bo true), (0, .r (allV d)), (1, v), (5, .omap m.h.length)], m := { h := m.h ++ [.map []] } } (by omega) (by simp) (by simp [allV]) (by rw [List.take_of_length_le (by simp)]; rfl) (by simp) rfl
  obtain ⟨c1, k1⟩ := l1.get
  rw [List.drop_zero, show decF [] (ansO d ms (truthsOf d)) = decB d ms from rfl] at h2
  have hl : lenOf (.r (allV d)) = some (truthsOf d).length := rfl
  obtain ⟨V, hV⟩ : ∃ V, V = allV d := ⟨_, rfl⟩
  rw [← hV] at k1 hl ⊢
  exact CallR.eval (m1 := s.m) rfl rfl prog_tally_decide rfl ⟨c1, fun k hk => by simp [a_tally_decide, hl, k1 k hk, h2, h5]⟩ h3 h4
/-- A copy of a list of numbers. -/
theorem CloneI_spec {l : List Int} {v : AV} {m : Mem} (hl : l.length < 900000) (hv : v = .r .nil ∧ l = [] ∨ (∃ B g T cap, v = .osl B g 0 l.length 1 cap ∧ m.h[B]? = some (.cells (rs (ints .i64 l)) T g) ∧ 0 < l.length)) :
    CallR C (fnv fn_slices_Clone_Sint_int) [v] m (.ret (.r (slI l)) m) := by
  rcases hv with ⟨rfl, rfl⟩ | ⟨B, g, T, cap, rfl, hB, hpos⟩
  · exact CallR.eval0 rfl rfl prog_slices_Clone_Sint_int rfl ⟨0, fun k _ => by simp [a_slices_Clone_Sint_int, slI, gsV]⟩
  · have hsl : ∀ W, slCells { h := m.h, wr := W } (.osl B g 0 l.length 1 cap) 1 = some (rs (ints .i64 l), l.length) := fun W => by
      simp only [slCells, rcells, hB, if_true]
      rw [if_pos ⟨trivial, by rw [rs_len, ints_len]; omega⟩, List.drop_zero, List.take_of_length_le (by rw [rs_len, ints_len]; omega)]
    have happ : ∀ W, appendA { h := m.h, wr := W } ty_int 1 8 (.r (.sl [] 0 (some 0))) (.osl B g 0 l.length 1 cap) = some (.osl m.h.length 0 0 l.length 1 none, { h := m.h ++ [.cells (rs (ints .i64 l)) ty_int 0], wr := W }) := fun W => by
      unfold appendA
      rw [hsl]
      simp only
      rw [if_neg (by omega), if_pos ⟨by omega, rfl, by simp [roomOk]; omega⟩]
      simp [rs]
    have hz : ∀ W, fz { h := m.h ++ [.cells (rs (ints .i64 l)) ty_int 0], wr := W } m.h.length 1000000 (.osl m.h.length 0 0 l.length 1 none) = some (.r (.sl (ints .i64 l) l.length none)) := fun W => fz_osl (t := ty_int) (g := 0) (by simp) (Nat.le_refl _) (by rw [ints_len]; omega) (by rw [ints_len]; omega)
    have hs : slI l = .sl (ints .i64 l) l.length none := by unfold slI gsV; rw [if_neg (by omega)]
    obtain ⟨I, hI⟩ : ∃ I, I = ints .i64 l := ⟨_, rfl⟩
    obtain ⟨n, hn⟩ : ∃ n, n = l.length := ⟨_, rfl⟩
    rw [hs]
    rw [← hI] at happ hz ⊢
    rw [← hn] at happ hz ⊢
    exact CallR.eval (m1 := { h := m.h ++ [.cells (rs I) ty_int 0], wr := [] }) rfl rfl prog_slices_Clone_Sint_int rfl ⟨0, fun k _ => by simp [a_slices_Clone_Sint_int, allR, repl, happ, hz]⟩ (by simp) (by simp)
/-- The function that tries members. -/
def chV (F T D Ch : Nat) : AV := .fn fn_tally_Ask_1 [] [.own F 0 0, .own T 1 0, .own D 1 0, .own Ch 0 0]
/-- A list of members that a heap has. -/
def Now (H : List Blk) (v : AV) (l : List Int) : Prop := v = .r .nil ∧ l = [] ∨ (∃ B g T cap, v = .osl B g 0 l.length 1 cap ∧ H[B]? = some (.cells (rs (ints .i64 l)) T g) ∧ 0 < l.length)
theorem Now.arr {H : List Blk} {v : AV} {l : List Int} (h : Now H v l) : Arr .i64 H v l := by
  rcases h with ⟨rfl, rfl⟩ | ⟨B, g, T, cap, rfl, hB, _⟩
  · exact Arr.ofSl Sl.nil
  · exact Arr.osl hB
theorem Now.keep {H H' : List Blk} {v : AV} {l : List Int} (h : Now H v l) (hk : ∀ (j : Nat) (T : TypeId) (g : Nat), H[j]? = some (Blk.cells (rs (ints .i64 l)) T g) → H'[j]? = some (Blk.cells (rs (ints .i64 l)) T g)) : Now H' v l := by
  rcases h with h | ⟨B, g, T, cap, h1, hB, h2⟩
  · exact .inl h
  · exact .inr ⟨B, g, T, cap, h1, hk _ _ _ hB, h2⟩
theorem choose_leaf {F T D Ch : Nat} {l : List Int} {x : RV} (hl : ∀ y ∈ l, 0 ≤ y ∧ y < 40) (hlen : l.length < 900000) (hd40 : d.n ≤ 40) (e : openI d = 0) {H : List Blk} (hF : H[F]? = some (.cells [.r x] ty_Sint 0)) (hT : H[T]? = some (.cells [.r (allV d)] ty_Stally_told 1)) (hFT : F ≠ T)
    (hnv : Now H v l) (hvF : ∀ j ∈ avIdx v, j ≠ F) (from_ : Int) (W : List Nat) :
    ∃ W', CallR C (chV F T D Ch) [v, i64 from_, i64 0] { h := H, wr := W } (.ret (bo (decB d l)) { h := H.set F (.cells [.r (slI l)] ty_Sint 0), wr := W' }) ∧ ∀ y ∈ W', y ∈ W ∨ y = F := by
  have hFl := getElem?_lt hF
  obtain ⟨c1, k1⟩ := CloneI_spec (m := { h := H }) hlen hnv
  obtain ⟨H2, hH2⟩ : ∃ H2, H2 = H.set F (.cells [.r (slI l)] ty_Sint 0) := ⟨_, rfl⟩
  have hnv2 : Now H2 v l := by
    rcases hnv with h | ⟨B, g, T', cap, h1, hB, h2⟩
    · exact .inl h
    · refine .inr ⟨B, g, T', cap, h1, ?_, h2⟩
      rw [hH2, List.getElem?_set_ne]
      · exact hB
      · intro e; exact hvF B (by rw [h1]; simp [avIdx]) e.symm
  have hT2 : H2[T]? = some (.cells [.r (allV d)] ty_Stally_told 1) := by rw [hH2, List.getElem?_set_ne hFT]; exact hT
  obtain ⟨c2, k2⟩ := decide_spec (v := v) (d := d) hl (by omega) hd40 e { h := H2, wr := [F] } (fun H' hH' => by
    refine (Now.keep hnv2 fun j T' g hj => ?_).arr
    have hH' : H'.take H2.length = H2 := hH'
    rw [take_get hH' (getElem?_lt hj) |>.trans hj])
  have hset : ∃ W', Go.AM.settle C.fz (C.keepAll fn_tally_Ask_1) { h := H, wr := W } (bo (decB d l)) { h := H2, wr := [F] } = (bo (decB d l), { h := H2, wr := W' }) ∧ ∀ y ∈ W', y ∈ W ∨ y = F := by
    have := settle_one (H := H) (W := W) (W1 := [F]) (B := F) (g := 0) (T := ty_Sint) (cs := [slI l]) (v := bo (decB d l)) (v' := bo (decB d l)) hFl (by simp) (fun m => rfl)
    rw [hH2]; exact this
  obtain ⟨W', hs, hw⟩ := hset
  refine ⟨W', CallR.evalW (m1 := { h := H2, wr := [F] }) (v := bo (decB d l)) rfl prog_tally_Ask_1 rfl ⟨c1 + c2, fun k hk => ?_⟩ (by rw [hH2] at hs ⊢; exact hs), hw⟩
  obtain ⟨S, hS⟩ : ∃ S, S = slI l := ⟨_, rfl⟩
  have hok : okV (.r S) = true ∧ AV.cells (.r S) = [.r S] := by
    rw [hS]; unfold slI gsV; split <;> exact ⟨rfl, rfl⟩
  obtain ⟨V, hV⟩ : ∃ V, V = allV d := ⟨_, rfl⟩
  rw [← hS] at k1 hH2
  rw [← hV] at hT2 k2
  have h1 := hok.1
  have h2 := hok.2
  simp only [okV, ok1] at h1
  simp only [AV.cells] at h2
  simp [runK, finK, a_tally_Ask_1, -okV, -ok1, -AV.cells, k1 k (by omega), hok, hF, ← hH2, hT2, k2 k (by omega)]
end
end Go.AM.T
/- What the functions compute (own work). -/
namespace Go.AM.T
open Go Go.AM
attribute [local simp] so_mov so_pick so_alloc so_box so_build so_slit so_load so_store so_nilc so_bin so_beq so_eqs so_eqn so_eqnl so_not so_conv so_s2b so_mkfn so_slcA so_padd so_fld so_idxA so_idxV so_idxT so_look so_mupd so_mkmap so_mksl so_ext so_app so_lenT so_lenM so_min so_max so_cpy so_clr so_mkif so_tass so_lenS so_idxS so_slc
attribute [local simp] dn_skip dn_label dn_ret dn_exit dn_scope dn_keep dn_reg dn_draw0 noSlots denE denEI stepE  sd_mov sd_pick sd_build sd_load sd_store sd_nilc sd_bin sd_beq sd_eqs sd_eqn sd_eqnl sd_not sd_conv sd_s2b sd_mkfn sd_slc sd_slcA sd_padd sd_fld sd_idxS sd_idxA sd_idxV sd_idxT sd_look sd_mupd sd_ext sd_app sd_lenS sd_lenT sd_lenM sd_min sd_max sd_mkif sd_tass sd_call sd_slit dn_seq dn_cond dn_block dn_loop kn_call denIs denI denOp wants ev eget putD binL enumFrom AV.bool? AV.int? ekeep evs evp runV fin runDefs resAll resOf tupOf unit AV.cells okV ok1 Value.oneCell' fill setN rcells rs_nil rs_cons load_own load_cons mkAgg_rs storeN jmpOut
attribute [local simp] dvL dv1t dvAt mkAgg2 dv0 dv1 dv2 dv3 dv4 dv5 dv6 dv7 dv8 dv9 dv10 dvA dvN dvAll C_fz fzr
section
variable {d : Div} {F T D Ch : Nat}
theorem may_nat {d : Div} : ∀ x ∈ doubtsL d, 0 ≤ x ∧ x < d.n := by
  intro x hx
  unfold doubtsL at hx
  obtain ⟨i, hi, rfl⟩ := List.mem_map.1 hx
  have := (List.mem_filter.1 hi).1
  simp at this
  omega
theorem one_loop (hd40 : d.n ≤ 40) (e : openI d = 0) {H : List Blk} (hFl : F < H.length) (hT : H[T]? = some (.cells [.r (allV d)] ty_Stally_told 1)) (hD : H[D]? = some (.cells [.r (slI (doubtsL d))] ty_Sint 1)) (hC : H[Ch]? = some (.cells [chV F T D Ch] ty_func_Sint_int_int_bool 0))
    (hFT : F ≠ T) (hFD : F ≠ D) (hFC : F ≠ Ch) :
    ∀ (k i : Nat) (s : St) (y : RV), i + k = (doubtsL d).length → ekeep [0, 2, 5, 6, 11] s.env = [(0, .r .nil), (2, i64 1), (5, .own D 1 0), (6, .own Ch 0 0), (11, i64 i)] → s.m.h.take H.length = H.set F (.cells [.r y] ty_Sint 0) → (∀ x ∈ s.m.wr, x = F ∨ H.length ≤ x) → s.defs = [] →
      ∃ s' o z, Loop C [0, 2, 5, 6, 11] l_tally_Ask_1_0 s o s' ∧ s'.m.h.take H.length = H.set F (.cells [.r z] ty_Sint 0) ∧ (∀ x ∈ s'.m.wr, x = F ∨ H.length ≤ x) ∧ s'.defs = [] ∧
        ((o = .ret ∧ eget s'.env 10 = bo true ∧ ∃ x, ((doubtsL d).drop i).find? (fun x => decB d [x]) = some x ∧ z = slI [x]) ∨ (o = .exit 0 ∧ ((doubtsL d).drop i).find? (fun x => decB d [x]) = none)) := by
  have hS : SlI (doubtsL d) (slI (doubtsL d)) := Sl.slI _
  have hlen : (doubtsL d).length ≤ 40 := by have := doubtsL_len d; omega
  intro k
  induction k with
  | zero =>
    intro i s y hi he hm hw hd
    obtain ⟨M, hMM⟩ : ∃ M, M = s.m := ⟨_, rfl⟩
    obtain ⟨Hc, W⟩ := M
    rw [← hMM] at hm hw
    simp only at hm hw
    have hD' : Hc[D]? = some (.cells [.r (slI (doubtsL d))] ty_Sint 1) := by rw [take_get hm (getElem?_lt hD), List.getElem?_set_ne hFD]; exact hD
    have e1 : ((i : Int) < ((doubtsL d).length : Int)) = False := eq_false (by omega)
    have : (doubtsL d).drop i = [] := List.drop_eq_nil_of_le (by omega)
    rw [this]
    exact ⟨_, .exit 0, y, .stop (.of fun K => by rw [he]; simp [l_tally_Ask_1_0, ← hMM, hD', hS.len, e1]; rfl) (by simp), by simp [hm], by simpa using hw, by simp [hd], .inr ⟨rfl, rfl⟩⟩
  | succ k ih =>
    intro i s y hi he hm hw hd
    obtain ⟨M, hMM⟩ : ∃ M, M = s.m := ⟨_, rfl⟩
    obtain ⟨Hc, W⟩ := M
    rw [← hMM] at hm hw
    simp only at hm hw
    have hcl : H.length ≤ Hc.length := by
      have := congrArg List.length hm
      rw [List.length_take, List.length_set] at this; omega
    have up : ∀ j b, j ≠ F → H[j]? = some b → Hc[j]? = some b := fun j b hj hb => by rw [take_get hm (getElem?_lt hb), List.getElem?_set_ne (Ne.symm hj)]; exact hb
    have hD' := up D _ (Ne.symm hFD) hD
    have hC' := up Ch _ (Ne.symm hFC) hC
    have hT' := up T _ (Ne.symm hFT) hT
    have hF' : Hc[F]? = some (.cells [.r y] ty_Sint 0) := by rw [take_get hm hFl, List.getElem?_set_self hFl]
    have hil : i < (doubtsL d).length := by omega
    have e1 : ((i : Int) < ((doubtsL d).length : Int)) = True := eq_true (by omega)
    have w1 : IntKind.wrap .i64 ((i : Int) + 1) = i + 1 := by rw [w64] <;> omega
    obtain ⟨x, hx⟩ : ∃ x, x = (doubtsL d)[i] := ⟨_, rfl⟩
    have hxr : 0 ≤ x ∧ x < 40 := by have := may_nat (d := d) x (by rw [hx]; exact List.getElem_mem hil); omega
    have hat := hS.at (sz := 1) hil
    have hld : ∀ m, loadV m (.r (.ptr ((ints .i64 (doubtsL d)).drop i))) 1 false = some (i64 x) := fun m => by rw [load_ints hil, hx]
    have hdrop : (doubtsL d).drop i = x :: (doubtsL d).drop (i + 1) := by rw [hx]; exact List.drop_eq_getElem_cons hil
    obtain ⟨H2, hH2⟩ : ∃ H2, H2 = Hc ++ [.cells [i64 x] ty_int 0] := ⟨_, rfl⟩
    have hA : appendA { h := Hc } ty_int 1 8 (.r .nil) (.r (.sl [.lit (.int .i64 x)] 1 (some 1))) = some (.osl Hc.length 0 0 1 1 none, { h := H2 }) := by
      unfold appendA
      simp [slCells, rs, roomOk, hH2]
    have hgetN : H2[Hc.length]? = some (.cells [i64 x] ty_int 0) := by simp [hH2]
    have up2 : ∀ j b, Hc[j]? = some b → H2[j]? = some b := fun j b hb => by rw [hH2, List.getElem?_append_left (getElem?_lt hb)]; exact hb
    have hCl := getElem?_lt hC'
    obtain ⟨W2, ⟨c1, k1⟩, hw2⟩ := choose_leaf (F := F) (T := T) (D := D) (Ch := Ch) (l := [x]) (d := d) (by simpa using hxr) (by simp) hd40 e (up2 _ _ hF') (up2 _ _ hT') hFT (v := .osl Hc.length 0 0 1 1 none) (.inr ⟨Hc.length, 0, ty_int, none, rfl, by rw [hgetN]; rfl, by simp⟩) (by
      intro j hj
      simp [avIdx] at hj
      omega) (i + 1) []
    have hw2' : ∀ z ∈ W2, z = F := fun z hz => by simpa using hw2 z hz
    have hap : apartL (wrAll Hc.length { h := H2 }) [Ch] = true := by
      unfold apartL wrAll
      rw [List.all_eq_true]
      intro z hz
      simp [hH2] at hz
      subst hz
      simp; omega
    have hPm : (H2.set F (.cells [.r (slI [x])] ty_Sint 0)).take H.length = H.set F (.cells [.r (slI [x])] ty_Sint 0) := by
      rw [List.take_set, hH2, List.take_append_of_le_length hcl, hm, List.set_set]
    obtain ⟨DV, hDV⟩ : ∃ DV, DV = slI (doubtsL d) := ⟨_, rfl⟩
    obtain ⟨DI, hDI⟩ : ∃ DI, DI = ints .i64 (doubtsL d) := ⟨_, rfl⟩
    have hln := hS.len
    rw [← hDV] at hD' hat hln
    rw [← hDI] at hat hld
    obtain ⟨cv, hcv⟩ : ∃ cv, cv = chV F T D Ch := ⟨_, rfl⟩
    rw [← hcv] at hC' k1
    obtain ⟨H3, hH3⟩ : ∃ H3, H3 = H2.set F (.cells [.r (slI [x])] ty_Sint 0) := ⟨_, rfl⟩
    rw [← hH3] at k1 hPm
    have hW : ∀ z ∈ W2 ++ W, z = F ∨ H.length ≤ z := fun z hz => by
      rcases List.mem_append.1 hz with h | h
      · exact .inl (hw2' z h)
      · exact hw z h
    have hk1 : ∀ n, c1 ≤ n → callN C n cv [.osl Hc.length 0 0 1 1 none, .r (.lit (.int .i64 ((i : Int) + 1))), i64 0] { h := H2 } = some (.ret (bo (decB d [x])) { h := H3, wr := W2 }) := k1
    cases hb : decB d [x] with
    | true =>
      rw [hb] at hk1
      refine ⟨_, .ret, slI [x], .stop (.ofN ⟨c1, fun n hn => by
        rw [he]
        simp [l_tally_Ask_1_0, dn_drawF, denF, denFI, stepF, slotFree, slotOf, foot, avIdx, pairsOk, apartL_nil, wrAll_self, hap, ← hMM, hD', hln, e1, hC', hat, hld, allR, AV.toR, repl, hA, w1, wk0, hk1 n hn]
        rfl⟩) (by simp), ?_, ?_, by simp [hd], .inl ⟨rfl, by simp, x, ?_, rfl⟩⟩
      · simpa using hPm
      · simpa using hW
      · rw [hdrop, List.find?_cons, hb]
    | false =>
      rw [hb] at hk1
      obtain ⟨s', o, z, h1, h2, h3, h4, h5⟩ := ih (i + 1) { s with env := [(0, .r .nil), (2, i64 1), (5, .own D 1 0), (6, .own Ch 0 0), (11, i64 (i + 1 : Nat))], m := { h := H3, wr := W2 ++ W } } (slI [x]) (by omega) (by simp) hPm hW hd
      refine ⟨s', o, z, .more (.ofN ⟨c1, fun n hn => ?_⟩) h1, h2, h3, h4, ?_⟩
      · rw [he]
        simp [l_tally_Ask_1_0, dn_drawF, denF, denFI, stepF, slotFree, slotOf, foot, avIdx, pairsOk, apartL_nil, wrAll_self, hap, ← hMM, hD', hln, e1, hC', hat, hld, allR, AV.toR, repl, hA, w1, wk0, hk1 n hn]
      · rw [hdrop, List.find?_cons, hb]; exact h5
/-- All single members are tried. -/
theorem choose_one (hd40 : d.n ≤ 40) (e : openI d = 0) {H : List Blk} {x : RV} (hF : H[F]? = some (.cells [.r x] ty_Sint 0)) (hT : H[T]? = some (.cells [.r (allV d)] ty_Stally_told 1)) (hD : H[D]? = some (.cells [.r (slI (doubtsL d))] ty_Sint 1)) (hC : H[Ch]? = some (.cells [chV F T D Ch] ty_func_Sint_int_int_bool 0))
    (hFT : F ≠ T) (hFD : F ≠ D) (hFC : F ≠ Ch) (W : List Nat) :
    ∃ W' z, CallR C (chV F T D Ch) [.r .nil, i64 0, i64 1] { h := H, wr := W } (.ret (bo ((doubtsL d).find? fun x => decB d [x]).isSome) { h := H.set F (.cells [.r z] ty_Sint 0), wr := W' }) ∧ (∀ y ∈ W', y ∈ W ∨ y = F) ∧ ∀ x, (doubtsL d).find? (fun x => decB d [x]) = some x → z = slI [x] := by
  have hFl := getElem?_lt hF
  obtain ⟨s, o, z, l1, h2, h3, h4, h5⟩ := one_loop hd40 e hFl hT hD hC hFT hFD hFC (doubtsL d).length 0 { env := [(0, .r .nil), (2, i64 1), (5, .own D 1 0), (6, .own Ch 0 0), (11, i64 0)], m := { h := H } } x (by omega) (by simp) (by simp [set_same hF]) (by simp) rfl
  rw [List.drop_zero] at h5
  obtain ⟨c1, k1⟩ := l1.get
  obtain ⟨Hc, W1, hsm⟩ : ∃ Hc W1, s.m = { h := Hc, wr := W1 } := ⟨_, _, rfl⟩
  rw [hsm] at h2 h3
  simp only at h2 h3
  have hset : ∀ b : Bool, ∃ W', Go.AM.settle C.fz (C.keepAll fn_tally_Ask_1) { h := H, wr := W } (bo b) { h := Hc, wr := W1 } = (bo b, { h := H.set F (.cells [.r z] ty_Sint 0), wr := W' }) ∧ ∀ y ∈ W', y ∈ W ∨ y = F := by
    intro b
    refine ⟨oldWr H.length W1 ++ W, ?_, fun y hy => ?_⟩
    · rw [show C.keepAll fn_tally_Ask_1 = false from rfl, settle_w (v' := bo b) rfl]
      · show _ = (bo b, Mem.mk (H.set F _) _)
        rw [← h2]
      · intro j hj hjl q hq
        simp only at hq hjl
        have : j = F := by rcases h3 j hj with h | h <;> omega
        subst this
        rw [take_get h2 hFl, List.getElem?_set_self hFl] at hq
        cases hq; rfl
    · rcases List.mem_append.1 hy with hy | hy
      · unfold oldWr at hy
        obtain ⟨q1, q2⟩ := List.mem_filter.1 hy
        have q2 : y < H.length := by simpa using q2
        rcases h3 y q1 with h | h
        · exact .inr h
        · omega
      · exact .inl hy
  rcases h5 with ⟨rfl, h5, x', h6, h7⟩ | ⟨rfl, h6⟩
  · obtain ⟨W', hs, hw⟩ := hset true
    refine ⟨W', z, CallR.evalW (m1 := { h := Hc, wr := W1 }) (v := bo true) rfl prog_tally_Ask_1 rfl ⟨c1, fun k hk => ?_⟩ (by rw [h6]; exact hs), hw, fun y hy => by rw [h6] at hy; cases hy; exact h7⟩
    simp [runK, finK, a_tally_Ask_1, k1 k hk, h5, h4, hsm]
  · obtain ⟨W', hs, hw⟩ := hset false
    refine ⟨W', z, CallR.evalW (m1 := { h := Hc, wr := W1 }) (v := bo false) rfl prog_tally_Ask_1 rfl ⟨c1, fun k hk => ?_⟩ (by rw [h6]; exact hs), hw, fun y hy => by rw [h6] at hy; cases hy⟩
    simp [runK, finK, a_tally_Ask_1, k1 k hk, h4, hsm]
end
end Go.AM.T
/- What the functions compute (own work). -/
namespace Go.AM.T
open Go Go.AM
attribute [local simp] so_mov so_pick so_alloc so_box so_build so_slit so_load so_store so_nilc so_bin so_beq so_eqs so_eqn so_eqnl so_not so_conv so_s2b so_mkfn so_slcA so_padd so_fld so_idxA so_idxV so_idxT so_look so_mupd so_mkmap so_mksl so_ext so_app so_lenT so_lenM so_min so_max so_cpy so_clr so_mkif so_tass so_lenS so_idxS so_slc
attribute [local simp] dn_skip dn_label dn_ret dn_exit dn_scope dn_keep dn_reg dn_draw0 noSlots denE denEI stepE  sd_mov sd_pick sd_build sd_load sd_store sd_nilc sd_bin sd_beq sd_eqs sd_eqn sd_eqnl sd_not sd_conv sd_s2b sd_mkfn sd_slc sd_slcA sd_padd sd_fld sd_idxS sd_idxA sd_idxV sd_idxT sd_look sd_mupd sd_ext sd_app sd_lenS sd_lenT sd_lenM sd_min sd_max sd_mkif sd_tass sd_call sd_slit dn_seq dn_cond dn_block dn_loop kn_call denIs denI denOp wants ev eget putD binL enumFrom AV.bool? AV.int? ekeep evs evp runV fin runDefs resAll resOf tupOf unit AV.cells okV ok1 Value.oneCell' fill setN rcells rs_nil rs_cons load_own load_cons mkAgg_rs storeN jmpOut
attribute [local simp] dvL dv1t dvAt mkAgg2 dv0 dv1 dv2 dv3 dv4 dv5 dv6 dv7 dv8 dv9 dv10 dvA dvN dvAll C_fz fzr
theorem sd_slot (K : Kit) (base : Nat) (e : Env) (h : List Blk) (k : Nat) (t : TypeId) (z : List RV) : stepD K base e h (.slot k t z) = match h[base + k]? with
    | some .dead => some (.own (base + k) 1 0, { h := h.set (base + k) (.cells (rs z) t 1), wr := [base + k] })
    | _ => none := rfl
section
variable {d : Div} {a0 a1 n0 n1 p q : RV}
/-- The least question, where one member is enough. -/
theorem Ask_one (hs : DivS d a0 a1 n0 n1 p q) (hb : Small d) (hru : 0 ≤ d.rule ∧ d.rule ≤ 255) (e : openI d = 0) (h2 : 2 ≤ (doubtsL d).length) (h0 : decB d [] = false) {x : Int} (hx : (doubtsL d).find? (fun x => decB d [x]) = some x) (m : Mem) :
    CallR C (fnv fn_tally_Ask) [.r (.agg (divC d a0 a1 n0 n1 p q))] m (.ret (.tup [.r (slI [x]), i64 0]) m) := by
  obtain ⟨R, hRR⟩ : ∃ R, R = lookC d (divC d a0 a1 n0 n1 p q) := ⟨_, rfl⟩
  have lR : R.length = 91 := by rw [hRR]; exact lookC_len
  have hRt : List.take 91 (rs R) = rs R := List.take_of_length_le (by rw [rs_len]; omega)
  obtain ⟨Z, hZ⟩ : ∃ Z, Z = z_tally_looked := ⟨_, rfl⟩
  have hZl : Z.length = 91 := by rw [hZ]; rfl
  have hZd : List.drop 91 (rs Z) = [] := List.drop_eq_nil_of_le (by rw [rs_len]; omega)
  have hd11 : (divC d a0 a1 n0 n1 p q).length = 11 := rfl
  obtain ⟨hr, -, -⟩ := openI0 e
  have hn := right_n hr
  obtain ⟨c1, k1⟩ := topen_spec hs hb hru { h := m.h ++ [.cells (rs (divC d a0 a1 n0 n1 p q)) ty_tally_Division 0] }
  rw [if_pos e, e, ← hRR] at k1
  obtain ⟨c2, k2⟩ := doubts_spec (d := d) (a0 := a0) (a1 := a1) (n0 := n0) (n1 := n1) (p := p) (q := q) hn { h := m.h ++ [.cells (rs (divC d a0 a1 n0 n1 p q)) ty_tally_Division 0, .cells (rs R) ty_tally_looked 0, .dead, .dead] }
  obtain ⟨c3, k3⟩ := all_told_spec hs hru.1 e { h := m.h ++ [.cells (rs (divC d a0 a1 n0 n1 p q)) ty_tally_Division 0, .cells (rs R) ty_tally_looked 0, .dead, .dead] }
  rw [← hRR] at k2 k3
  obtain ⟨D, hD⟩ : ∃ D, D = divC d a0 a1 n0 n1 p q := ⟨_, rfl⟩
  rw [← hD] at k1 k2 k3 hd11 ⊢
  have hDt : List.take 11 (rs D) = rs D := List.take_of_length_le (by rw [rs_len]; omega)
  obtain ⟨F, hF⟩ : ∃ F, F = m.h.length + 4 := ⟨_, rfl⟩
  obtain ⟨H, hH⟩ : ∃ H, H = m.h ++ [.cells (rs D) ty_tally_Division 0, .cells (rs R) ty_tally_looked 0, .cells [.r (slI (doubtsL d))] ty_Sint 1, .cells [.r (allV d)] ty_Stally_told 1, .cells [.r .nil] ty_Sint 0, .cells [chV (m.h.length + 4) (m.h.length + 3) (m.h.length + 2) (m.h.length + 5)] ty_func_Sint_int_int_bool 0] := ⟨_, rfl⟩
  have g2 : H[m.h.length + 2]? = some (.cells [.r (slI (doubtsL d))] ty_Sint 1) := by rw [hH, get_midk]; rfl
  have g3 : H[m.h.length + 3]? = some (.cells [.r (allV d)] ty_Stally_told 1) := by rw [hH, get_midk]; rfl
  have g4 : H[m.h.length + 4]? = some (.cells [.r .nil] ty_Sint 0) := by rw [hH, get_midk]; rfl
  have g5 : H[m.h.length + 5]? = some (.cells [chV (m.h.length + 4) (m.h.length + 3) (m.h.length + 2) (m.h.length + 5)] ty_func_Sint_int_int_bool 0) := by rw [hH, get_midk]; rfl
  obtain ⟨W1, ⟨c4, k4⟩, hw1⟩ := choose_leaf (F := m.h.length + 4) (T := m.h.length + 3) (D := m.h.length + 2) (Ch := m.h.length + 5) (l := []) (d := d) (by simp) (by simp) hn.2 e g4 g3 (by omega) (v := .r .nil) (.inl ⟨rfl, rfl⟩) (by simp [avIdx]) 0 [m.h.length + 5, m.h.length + 3, m.h.length + 2, m.h.length + 3, m.h.length + 2, m.h.length + 1]
  rw [h0] at k4
  obtain ⟨H2, hH2⟩ : ∃ H2, H2 = H.set (m.h.length + 4) (.cells [.r (slI [])] ty_Sint 0) := ⟨_, rfl⟩
  rw [← hH2] at k4
  have f2 : H2[m.h.length + 2]? = some (.cells [.r (slI (doubtsL d))] ty_Sint 1) := by rw [hH2, List.getElem?_set_ne (by omega)]; exact g2
  have f3 : H2[m.h.length + 3]? = some (.cells [.r (allV d)] ty_Stally_told 1) := by rw [hH2, List.getElem?_set_ne (by omega)]; exact g3
  have f4 : H2[m.h.length + 4]? = some (.cells [.r (slI [])] ty_Sint 0) := by rw [hH2, List.getElem?_set_self (getElem?_lt g4)]
  have f5 : H2[m.h.length + 5]? = some (.cells [chV (m.h.length + 4) (m.h.length + 3) (m.h.length + 2) (m.h.length + 5)] ty_func_Sint_int_int_bool 0) := by rw [hH2, List.getElem?_set_ne (by omega)]; exact g5
  obtain ⟨W2, z, ⟨c5, k5⟩, hw2, hz⟩ := choose_one (x := slI []) hn.2 e f4 f3 f2 f5 (by omega) (by omega) (by omega) W1
  rw [hx] at k5
  have hz := hz x hx
  rw [hz] at k5
  obtain ⟨H3, hH3⟩ : ∃ H3, H3 = H2.set (m.h.length + 4) (.cells [.r (slI [x])] ty_Sint 0) := ⟨_, rfl⟩
  rw [← hH3] at k5
  have i4 : H3[m.h.length + 4]? = some (.cells [.r (slI [x])] ty_Sint 0) := by rw [hH3, List.getElem?_set_self (getElem?_lt f4)]
  have e1 : (0 < ((doubtsL d).length : Int)) = True := eq_true (by omega)
  have e2 : (1 < ((doubtsL d).length : Int)) = True := eq_true (by omega)
  have e1' : (0 < (doubtsL d).length) = True := eq_true (by omega)
  have e2' : (1 < (doubtsL d).length) = True := eq_true (by omega)
  have hl := (Sl.slI (doubtsL d)).len
  have ht : H3.take m.h.length = m.h := by rw [hH3, List.take_set_of_le (by omega), hH2, List.take_set_of_le (by omega), hH]; simp
  have hxs : slI [x] = .sl [.lit (.int .i64 x)] 1 none := rfl
  obtain ⟨DI, n, hDV⟩ : ∃ DI n, slI (doubtsL d) = .sl DI n none := ⟨ints .i64 (doubtsL d), (doubtsL d).length, by unfold slI gsV; rw [if_neg (by omega)]⟩
  obtain ⟨TC, tn, hV⟩ : ∃ TC tn, allV d = .sl TC tn none := ⟨_, _, rfl⟩
  rw [hDV] at hl k2 g2 f2 hH
  rw [hV] at k3 g3 f3 hH
  have hwr : ∀ y ∈ W2, m.h.length ≤ y := fun y hy => by
    rcases hw2 y hy with h | rfl
    · rcases hw1 y h with h | rfl
      · simp at h; omega
      · omega
    · omega
  simp only [chV] at hH k4 k5 g5 f5
  refine CallR.eval (m1 := { h := H3, wr := W2 }) rfl rfl prog_tally_Ask rfl ⟨c1 + c2 + c3 + c4 + c5 + 5, fun k hk => ?_⟩ ht hwr
  obtain ⟨j, rfl⟩ : ∃ j, k = j + 5 := ⟨k - 5, by omega⟩
  have l21 : m.h.length + 2 + 1 = m.h.length + 3 := rfl
  simp [a_tally_Ask, l21, dn_drawF, sd_slot, denF, denFI, stepF, slotFree, slotOf, foot, avIdx, wrAll, pairsOk, apartL, ← hZ, hd11, hDt, rs_len, hZl, hZd, lR, hRt, k1 (j + 5) (by omega), k2 (j + 5) (by omega), k3 (j + 5) (by omega), allR, AV.toR, ← hH, goLoop, kn_iter, iterN, l_tally_Ask_0, g2, g5, f2, f5, i4, hl, e1, e2, e1', e2', wk0, wk1, k4 (j + 5) (by omega), k5 (j + 5) (by omega), hxs, fz, fzs]
end
end Go.AM.T
/- What the functions compute (own work). -/
namespace Go.AM.T
open Go Go.AM
attribute [local simp] so_mov so_pick so_alloc so_box so_build so_slit so_load so_store so_nilc so_bin so_beq so_eqs so_eqn so_eqnl so_not so_conv so_s2b so_mkfn so_slcA so_padd so_fld so_idxA so_idxV so_idxT so_look so_mupd so_mkmap so_mksl so_ext so_app so_lenT so_lenM so_min so_max so_cpy so_clr so_mkif so_tass so_lenS so_idxS so_slc
attribute [local simp] dn_skip dn_label dn_ret dn_exit dn_scope dn_keep dn_reg dn_draw0 noSlots denE denEI stepE  sd_mov sd_pick sd_build sd_load sd_store sd_nilc sd_bin sd_beq sd_eqs sd_eqn sd_eqnl sd_not sd_conv sd_s2b sd_mkfn sd_slc sd_slcA sd_padd sd_fld sd_idxS sd_idxA sd_idxV sd_idxT sd_look sd_mupd sd_ext sd_app sd_lenS sd_lenT sd_lenM sd_min sd_max sd_mkif sd_tass sd_call sd_slit dn_seq dn_cond dn_block dn_loop kn_call denIs denI denOp wants ev eget putD binL enumFrom AV.bool? AV.int? ekeep evs evp runV fin runDefs resAll resOf tupOf unit AV.cells okV ok1 Value.oneCell' fill setN rcells rs_nil rs_cons load_own load_cons mkAgg_rs storeN jmpOut
attribute [local simp] dvL dv1t dvAt mkAgg2 dv0 dv1 dv2 dv3 dv4 dv5 dv6 dv7 dv8 dv9 dv10 dvA dvN dvAll C_fz fzr
def il (l : List Int) : RV := .sl (ints .i64 l) l.length (some l.length)
def ul (l : List Int) : RV := .sl (ints .u8 l) l.length (some l.length)
def pl (l : List (Int × Int)) : RV := .sl (prs l) l.length (some l.length)
/-- The division of the document's examples. -/
def lobD : Div := ⟨6, [0, 1, 2], [0, 1, 3], [4, 5], [4, 5], [], [(4, 3)], 0, 0, 3, 2⟩
def lobC : List RV := divC lobD (il [0, 1, 2]) (il [0, 1, 3]) (il [4, 5]) (il [4, 5]) .nil (pl [(4, 3)])
theorem il_S (l : List Int) : SlI l (il l) := Sl.mk _ _ _
theorem pl_S (l : List (Int × Int)) : SlP l (pl l) := Sl.mk _ _ _
theorem lobS : DivS lobD (il [0, 1, 2]) (il [0, 1, 3]) (il [4, 5]) (il [4, 5]) .nil (pl [(4, 3)]) := ⟨il_S _, il_S _, il_S _, il_S _, Sl.nil, pl_S _⟩
theorem lobbies_spec (m : Mem) : CallR C (fnv fn_law07_lobbies) [] m (.ret (.r (.agg lobC)) m) := by
  refine CallR.eval (m1 := { h := m.h ++ [.cells (rs lobC) ty_tally_Division 0], wr := [m.h.length] }) rfl rfl prog_law07_lobbies rfl ⟨0, fun k hk => ?_⟩ (by simp) (by simp)
  simp [a_law07_lobbies, allR, AV.toR, mkAgg, repl, lobC, divC, il, pl, ints, prs, lobD]
theorem lobOpen : openI lobD = 0 := by kernel_rfl
theorem lobDoubts : doubtsL lobD = [2, 3] := by kernel_rfl
theorem lobBn : (bnL lobD).a = (2, 4) ∧ (bnL lobD).b = (2, 3) := ⟨by kernel_rfl, by kernel_rfl⟩
theorem lobAl : alS lobD = [0, 1] := by kernel_rfl
theorem lobDec0 : decB lobD [] = false := by kernel_rfl
theorem lobDec1 : (doubtsL lobD).find? (fun x => decB lobD [x]) = some 3 := by kernel_rfl
theorem lobSmall : Small lobD := ⟨by decide, by decide, by decide, by decide, by decide, by decide⟩
theorem lobRule : 0 ≤ lobD.rule ∧ lobD.rule ≤ 255 := by decide
/-- The law's examples hold, whatever memory holds. -/
theorem wakes_spec (m : Mem) : CallR C (fnv fn_law07_wakes) [] m (.ret (bo true) m) := by
  have hf : faultI lobD = 0 := by kernel_rfl
  obtain ⟨c1, k1⟩ := lobbies_spec { h := m.h }
  obtain ⟨c2, k2⟩ := Doubts_spec lobS lobSmall lobRule { h := m.h }
  obtain ⟨c3, k3⟩ := Bounds_spec lobS lobSmall lobRule { h := m.h }
  obtain ⟨H, hH⟩ : ∃ H, H = m.h ++ [.cells [i64 2, i64 4] ty_tally_Range 0, .cells [i64 2, i64 3] ty_tally_Range 0] := ⟨_, rfl⟩
  obtain ⟨c4, k4⟩ := lobbies_spec { h := H, wr := [m.h.length + 1, m.h.length] }
  obtain ⟨c5, k5⟩ := Allowed_spec lobS lobSmall lobRule { h := H, wr := [m.h.length + 1, m.h.length] }
  obtain ⟨c6, k6⟩ := Ask_one lobS lobSmall lobRule lobOpen (by rw [lobDoubts]; decide) lobDec0 lobDec1 { h := H, wr := [m.h.length + 1, m.h.length] }
  rw [if_pos hf, hf, lobDoubts] at k2
  rw [if_pos lobOpen, if_pos lobOpen, lobOpen, lobBn.1, lobBn.2] at k3
  rw [if_pos lobOpen, lobOpen, lobAl] at k5
  have g0 : H[m.h.length]? = some (.cells [i64 2, i64 4] ty_tally_Range 0) := by simp [hH]
  have g1 : H[m.h.length + 1]? = some (.cells [i64 2, i64 3] ty_tally_Range 0) := by simp [hH]
  obtain ⟨c7, k7⟩ := law07_ints_spec (Sl.slI [2, 3]) (il_S [2, 3]) (by decide) { h := H, wr := [m.h.length + 1, m.h.length] }
  obtain ⟨c8, k8⟩ := law07_ints_spec (Sl.slI [3]) (il_S [3]) (by decide) { h := H, wr := [m.h.length + 1, m.h.length] }
  obtain ⟨c9, k9⟩ := law07_votes_spec (l := [0, 1]) (k := [0, 1]) (v := .sl (ints .u8 [0, 1]) 2 none) (w := .sl (ints .u8 [0, 1]) 2 (some 2)) (Sl.mk _ _ _) (Sl.mk _ _ _) (by decide) { h := H, wr := [m.h.length + 1, m.h.length] }
  obtain ⟨Lc, hLc⟩ : ∃ Lc, Lc = lobC := ⟨_, rfl⟩
  rw [show divC lobD (il [0, 1, 2]) (il [0, 1, 3]) (il [4, 5]) (il [4, 5]) .nil (pl [(4, 3)]) = lobC from rfl, ← hLc] at k2 k3 k5 k6
  rw [← hLc] at k1 k4
  have ht : H.take m.h.length = m.h := by simp [hH]
  refine CallR.eval (m1 := { h := H, wr := [m.h.length + 1, m.h.length] }) rfl rfl prog_law07_wakes rfl ⟨c1 + c2 + c3 + c4 + c5 + c6 + c7 + c8 + c9, fun k hk => ?_⟩ ht (by simp)
  have k7 := k7 k (by omega)
  have k8 := k8 k (by omega)
  have k9 := k9 k (by omega)
  simp [slI, gsV, ints, il] at k7 k8 k9
  have k2 := k2 k (by omega)
  have k3 := k3 k (by omega)
  have k5 := k5 k (by omega)
  have k6 := k6 k (by omega)
  simp [slI, gsV, ints, nmR] at k2 k3 k5 k6
  simp [a_law07_wakes, k1 k (by omega), k2, k3, k4 k (by omega), k5, k6, ← hH, allR, AV.toR, repl, mkAgg, k7, k8, k9, g0, g1, rvEqs, rvEq]
end Go.AM.T
/- What the functions compute (own work). -/
namespace Go.AM.T
open Go Go.AM
attribute [local simp] so_mov so_pick so_alloc so_box so_build so_slit so_load so_store so_nilc so_bin so_beq so_eqs so_eqn so_eqnl so_not so_conv so_s2b so_mkfn so_slcA so_padd so_fld so_idxA so_idxV so_idxT so_look so_mupd so_mkmap so_mksl so_ext so_app so_lenT so_lenM so_min so_max so_cpy so_clr so_mkif so_tass so_lenS so_idxS so_slc
attribute [local simp] dn_skip dn_label dn_ret dn_exit dn_scope dn_keep dn_reg dn_draw0 noSlots denE denEI stepE  sd_mov sd_pick sd_build sd_load sd_store sd_nilc sd_bin sd_beq sd_eqs sd_eqn sd_eqnl sd_not sd_conv sd_s2b sd_mkfn sd_slc sd_slcA sd_padd sd_fld sd_idxS sd_idxA sd_idxV sd_idxT sd_look sd_mupd sd_ext sd_app sd_lenS sd_lenT sd_lenM sd_min sd_max sd_mkif sd_tass sd_call sd_slit dn_seq dn_cond dn_block dn_loop kn_call denIs denI denOp wants ev eget putD binL enumFrom AV.bool? AV.int? ekeep evs evp runV fin runDefs resAll resOf tupOf unit AV.cells okV ok1 Value.oneCell' fill setN rcells rs_nil rs_cons load_own load_cons mkAgg_rs storeN jmpOut
attribute [local simp] dvL dv1t dvAt mkAgg2 dv0 dv1 dv2 dv3 dv4 dv5 dv6 dv7 dv8 dv9 dv10 dvA dvN dvAll C_fz fzr
theorem tg_pad (u : List Int) (i : Nat) : tg (pad u) i = tg u i := by
  unfold tg pad
  rw [List.getD_eq_getElem?_getD, List.getD_eq_getElem?_getD]
  by_cases h : i < u.length
  · rw [List.getElem?_append_left h]
  · rw [List.getElem?_append_right (by omega), List.getElem?_eq_none (by omega : u.length ≤ i)]
    by_cases h2 : i - u.length < 40 - u.length
    · rw [List.getElem?_replicate, if_pos h2]; rfl
    · rw [List.getElem?_replicate, if_neg h2]
theorem nums_pad (d : Div) (u : List Int) : numsL d (pad u) = numsL d u := by
  have h1 : memStep d (pad u) = memStep d u := by
    funext n i; unfold memStep; rw [tg_pad]
  have h2 : proxStep d (pad u) = proxStep d u := by
    funext n x; unfold proxStep; rw [tg_pad, tg_pad]
  unfold numsL numsM
  rw [h1, h2]
/-- What the law reckons: both ranges, out of numbers. -/
def lwStep (s : (Int × Int) × (Int × Int)) (n : Int × Int) : (Int × Int) × (Int × Int) := ((mn s.1.1 n.1, mx s.1.2 n.1), (mn s.2.1 n.2, mx s.2.2 n.2))
def lw0 (n : Int × Int) : (Int × Int) × (Int × Int) := ((n.1, n.1), (n.2, n.2))
def lwL : List (Int × Int) → (Int × Int) × (Int × Int)
  | [] => ((0, 0), (0, 0))
  | n :: l => l.foldl lwStep (lw0 n)
theorem bn_lw (d : Div) : ∀ (l : List (List Int)) (s : Bn), s.first = false → (s.a.1 ≤ s.last.1 ∧ s.last.1 ≤ s.a.2) → (s.b.1 ≤ s.last.2 ∧ s.last.2 ≤ s.b.2) →
    (foldS (bnStep d) s l).1.a = ((l.map (numsL d)).foldl lwStep (s.a, s.b)).1 ∧ (foldS (bnStep d) s l).1.b = ((l.map (numsL d)).foldl lwStep (s.a, s.b)).2
  | [], s, _, _, _ => ⟨rfl, rfl⟩
  | t :: l, s, hf, ha, hb => by
    rw [foldS_cons, if_pos (bnStep_2 d s t), List.map_cons, List.foldl_cons]
    have hs : (bnStep d s t).1 = ⟨false, (mn s.a.1 (numsL d t).1, mx s.a.2 (numsL d t).1), (mn s.b.1 (numsL d t).2, mx s.b.2 (numsL d t).2), numsL d t⟩ := by
      unfold bnStep
      rw [if_neg (by simp [hf])]
      split
      · rename_i e
        rw [e]
        have h1 : mn s.a.1 s.last.1 = s.a.1 := by unfold mn; split <;> omega
        have h2 : mx s.a.2 s.last.1 = s.a.2 := by unfold mx; split <;> omega
        have h3 : mn s.b.1 s.last.2 = s.b.1 := by unfold mn; split <;> omega
        have h4 : mx s.b.2 s.last.2 = s.b.2 := by unfold mx; split <;> omega
        rw [h1, h2, h3, h4]
      · rfl
    have ih := bn_lw d l (bnStep d s t).1 (by rw [hs]) (by
      rw [hs]; simp only [mn, mx]
      constructor <;> split <;> omega) (by
      rw [hs]; simp only [mn, mx]
      constructor <;> split <;> omega)
    rw [hs] at ih ⊢
    exact ih
theorem bnL_lw {d : Div} (ho : openI d = 0) : (bnL d).a = (lwL ((rtOf d).map (numsL d))).1 ∧ (bnL d).b = (lwL ((rtOf d).map (numsL d))).2 := by
  have hn := right_n (openI0 ho).1
  have hne := truthsOf_ne ho
  unfold bnL
  have hm : (rtOf d).map (numsL d) = (truthsOf d).map (numsL d) := by
    rw [truthsOf_rt hn.2, List.map_map]
    refine List.map_congr_left fun u _ => ?_
    show _ = numsL d (pad u)
    rw [nums_pad]
  rw [hm]
  cases ht : truthsOf d with
  | nil => exact absurd ht hne
  | cons t l =>
    rw [foldS_cons, if_pos (bnStep_2 d _ t), List.map_cons]
    have hs : (bnStep d bn0 t).1 = ⟨false, ((numsL d t).1, (numsL d t).1), ((numsL d t).2, (numsL d t).2), numsL d t⟩ := by unfold bnStep bn0; rfl
    have := bn_lw d l (bnStep d bn0 t).1 (by rw [hs]) (by rw [hs]; exact ⟨Int.le_refl _, Int.le_refl _⟩) (by rw [hs]; exact ⟨Int.le_refl _, Int.le_refl _⟩)
    rw [hs] at this ⊢
    exact this
theorem small_few {d : Div} (h : smallB d = true) : fewB d = true := by
  unfold smallB at h
  split at h
  · rename_i h1; exact h1.1
  · exact h
theorem rt_ok {d : Div} : ∀ u ∈ rtOf d, u.length = d.n.toNat ∧ VOk u := fun u hu => ⟨by have := rtF_len _ _ _ hu; simpa using this, rtF_ok _ _ _ (by simp [VOk]) hu⟩
theorem rtOf_ne {d : Div} (ho : openI d = 0) : rtOf d ≠ [] := by
  have h := truthsOf_ne ho
  rw [truthsOf_rt (right_n (openI0 ho).1).2] at h
  simpa using h
end Go.AM.T
/- What the functions compute (own work). -/
namespace Go.AM.T
open Go Go.AM
attribute [local simp] so_mov so_pick so_alloc so_box so_build so_slit so_load so_store so_nilc so_bin so_beq so_eqs so_eqn so_eqnl so_not so_conv so_s2b so_mkfn so_slcA so_padd so_fld so_idxA so_idxV so_idxT so_look so_mupd so_mkmap so_mksl so_ext so_app so_lenT so_lenM so_min so_max so_cpy so_clr so_mkif so_tass so_lenS so_idxS so_slc
attribute [local simp] dn_skip dn_label dn_ret dn_exit dn_scope dn_keep dn_reg dn_draw0 noSlots denE denEI stepE  sd_mov sd_pick sd_build sd_load sd_store sd_nilc sd_bin sd_beq sd_eqs sd_eqn sd_eqnl sd_not sd_conv sd_s2b sd_mkfn sd_slc sd_slcA sd_padd sd_fld sd_idxS sd_idxA sd_idxV sd_idxT sd_look sd_mupd sd_ext sd_app sd_lenS sd_lenT sd_lenM sd_min sd_max sd_mkif sd_tass sd_call sd_slit dn_seq dn_cond dn_block dn_loop kn_call denIs denI denOp wants ev eget putD binL enumFrom AV.bool? AV.int? ekeep evs evp runV fin runDefs resAll resOf tupOf unit AV.cells okV ok1 Value.oneCell' fill setN rcells rs_nil rs_cons load_own load_cons mkAgg_rs storeN jmpOut
attribute [local simp] dvL dv1t dvAt mkAgg2 dv0 dv1 dv2 dv3 dv4 dv5 dv6 dv7 dv8 dv9 dv10 dvA dvN dvAll C_fz fzr
/-- The least truth with an outcome, and one truth more. -/
def wiStep (d : Div) (o : Int) (s : Option (List Int)) (t : List Int) : Option (List Int) × Bool :=
  match s with
  | some u => (some u, false)
  | none => if outcomeI d (numsL d t) = o then (some (t.take d.n.toNat), false) else (none, true)
def wiR (s : Option (List Int)) : RV := match s with | some u => .sl (ints .u8 u) u.length none | none => .nil
def wiE (s : Option (List Int)) : Int := 0
def lpW (d : Div) (L : Nat) (D R : List RV) (o : Int) : Lp (Option (List Int)) where
  E := [(3, .own (L + 1) 0 0), (4, .own (L + 2) 0 0), (5, .own (L + 3) 0 0), (6, .own (L + 4) 0 0), (25, .r (.fn fn_tally_looked_truths_1 [] [.ptr R]))]
  pt := 26
  tt := 8
  bd := b_tally_Witness_0
  k := 5
  P := fun s _ => [.cells (rs D) ty_tally_Division 0, .cells [u8 o] ty_uint8 0, .cells [.r (wiR s)] ty_Suint8 0, .cells [i64 0] ty_api_Errno 0, .cells (rs R) ty_tally_looked 0]
  T := ty_uint8
  sz := 1
  cs := fun _ => []
  nn := fun _ => 0
  jb := 2
  Tb := ty_Suint8
  alive := fun s => s.isNone
  rank := fun _ => 0
  N := 10000
  step := wiStep d o
theorem CloneU_spec {l : List Int} {m : Mem} {B g : Nat} {T : TypeId} {cap : Option Nat} {t : List Int} (hB : m.h[B]? = some (.cells (rs (ints .u8 t)) T g)) (hl : l = t.take l.length) (hpos : 0 < l.length) (hlt : l.length ≤ t.length) (h40 : t.length = 40) :
    CallR C (fnv fn_slices_Clone_Suint8_uint8) [.osl B g 0 l.length 1 cap] m (.ret (.r (.sl (ints .u8 l) l.length none)) m) := by
  have htk : List.take l.length (rs (ints .u8 t)) = rs (ints .u8 l) := by
    conv => rhs; rw [hl]
    simp [rs, ints, List.map_take]
  have hsl : ∀ W, slCells { h := m.h, wr := W } (.osl B g 0 l.length 1 cap) 1 = some (rs (ints .u8 l), l.length) := fun W => by
    simp only [slCells, rcells, hB, if_true]
    rw [if_pos ⟨trivial, by rw [rs_len, ints_len]; omega⟩, List.drop_zero, Nat.mul_one, htk]
  have happ : ∀ W, appendA { h := m.h, wr := W } ty_uint8 1 1 (.r (.sl [] 0 (some 0))) (.osl B g 0 l.length 1 cap) = some (.osl m.h.length 0 0 l.length 1 none, { h := m.h ++ [.cells (rs (ints .u8 l)) ty_uint8 0], wr := W }) := fun W => by
    unfold appendA
    rw [hsl]
    simp only
    rw [if_neg (by omega), if_pos ⟨by omega, rfl, by simp [roomOk]; omega⟩]
    simp [rs]
  have hz : ∀ W, fz { h := m.h ++ [.cells (rs (ints .u8 l)) ty_uint8 0], wr := W } m.h.length 1000000 (.osl m.h.length 0 0 l.length 1 none) = some (.r (.sl (ints .u8 l) l.length none)) := fun W => fz_osl (t := ty_uint8) (g := 0) (by simp) (Nat.le_refl _) (by rw [ints_len]; omega) (by rw [ints_len]; omega)
  obtain ⟨I, hI⟩ : ∃ I, I = ints .u8 l := ⟨_, rfl⟩
  obtain ⟨n, hn⟩ : ∃ n, n = l.length := ⟨_, rfl⟩
  rw [← hI] at happ hz ⊢
  rw [← hn] at happ hz ⊢
  exact CallR.eval (m1 := { h := m.h ++ [.cells (rs I) ty_uint8 0], wr := [] }) rfl rfl prog_slices_Clone_Suint8_uint8 rfl ⟨0, fun k _ => by simp [a_slices_Clone_Suint8_uint8, allR, repl, happ, hz]⟩ (by simp) (by simp)
section
variable {d : Div} {a0 a1 n0 n1 p q : RV}
theorem wi_ok (hs : DivS d a0 a1 n0 n1 p q) (hr : rightB d = true) (h0 : 0 ≤ d.rule) (m : Mem) {D R : List RV} (o : Int) (hR : R = lookC d (divC d a0 a1 n0 n1 p q)) : (lpW d m.h.length D R o).Ok m where
  len := fun _ _ => rfl
  al := fun s t => by
    show (wiStep d o s t).1.isNone = (wiStep d o s t).2
    unfold wiStep
    cases s with
    | some u => rfl
    | none => simp only; split <;> rfl
  rk := fun s t => Nat.zero_le _
  jb := by show 2 < 5; omega
  body := by
    intro s v t Hb W X hal hrk ht htk hG hX1 hX2 hT
    have hs0 : s = none := by
      have : s.isNone = true := hal
      cases s with
      | none => rfl
      | some u => cases this
    subst hs0
    have hn := right_n hr
    have htk : Hb.take (m.h.length + 7) = (lpW d m.h.length D R o).low m none v .busy none := htk
    have hG : GS Hb (m.h.length + 7) ty_uint8 1 [] 0 v := hG
    have hX1 : m.h.length + 7 ≤ X := hX1
    have lR : R.length = 91 := by rw [hR]; exact lookC_len
    have tR : List.take 91 (rs R) = rs R := List.take_of_length_le (by rw [rs_len]; omega)
    have l40 : (ints .u8 t).length = 40 := by rw [ints_len]; exact ht.1
    have t40 : List.take 40 (rs (ints .u8 t)) = rs (ints .u8 t) := List.take_of_length_le (by rw [rs_len]; omega)
    have gO : Hb[m.h.length + 1]? = some (.cells [u8 o] ty_uint8 0) := pre_get htk (by omega) rfl
    have gW : Hb[m.h.length + 2]? = some (.cells [.r .nil] ty_Suint8 0) := pre_get htk (by omega) rfl
    have gE : Hb[m.h.length + 3]? = some (.cells [i64 0] ty_api_Errno 0) := pre_get htk (by omega) rfl
    have gX : Hb[m.h.length + 4]? = some (.cells (rs R) ty_tally_looked 0) := pre_get htk (by omega) rfl
    have hlen : m.h.length + 7 ≤ Hb.length := by
      have := congrArg List.length htk
      rw [List.length_take] at this
      have h2 : ((lpW d m.h.length D R o).low m none v .busy none).length = m.h.length + 7 := by simp [Lp.low, lpW]
      omega
    have hnl := nums_le hr t
    obtain ⟨c1, k1⟩ := numbers_spec hs hr ht.1 { h := Hb }
    obtain ⟨c2, k2⟩ := outcome_spec (a0 := a0) (a1 := a1) (n0 := n0) (n1 := n1) (p := p) (q := q) hr h0 (numsL d t) hnl.1 hnl.2 { h := Hb }
    rw [← hR] at k1 k2
    have hRn : List.take 1 (rs R) = [i64 d.n] := by rw [hR]; exact lookC_n
    obtain ⟨o', ho'⟩ : ∃ o', o' = outcomeI d (numsL d t) := ⟨_, rfl⟩
    obtain ⟨n, hnn⟩ : ∃ n, n = numsL d t := ⟨_, rfl⟩
    have hstep : (lpW d m.h.length D R o).step none t = if o' = o then (some (t.take d.n.toNat), false) else (none, true) := by rw [ho']; rfl
    obtain ⟨u, hu⟩ : ∃ u, u = t.take d.n.toNat := ⟨_, rfl⟩
    have hul : u.length = d.n.toNat := by rw [hu, List.length_take, ht.1]; omega
    obtain ⟨c3, k3⟩ := CloneU_spec (l := u) (m := { h := Hb, wr := W }) (cap := some 40) hT (by rw [hul]; exact hu) (by omega) (by rw [ht.1]; omega) ht.1
    rw [hul] at k3
    obtain ⟨I, hI⟩ : ∃ I, I = ints .u8 t := ⟨_, rfl⟩
    rw [← hI] at k1 hT l40 t40 ⊢
    rw [← ho'] at k2
    rw [← hnn] at k1 k2
    simp only [nmR] at k2
    rw [hstep]
    have hwa : apartL (wrAll Hb.length { h := Hb }) [m.h.length + 1] = true := by rw [wrAll_self]; rfl
    by_cases e : o' = o
    · rw [if_pos e]
      have e1 : (o' == o) = true := by simpa using e
      have b1 : (0 ≤ d.n) = True := eq_true (by omega)
      have b2 : (d.n.toNat ≤ 40) = True := eq_true (by omega)
      obtain ⟨U, hU⟩ : ∃ U, U = ints .u8 u := ⟨_, rfl⟩
      rw [← hU] at k3
      obtain ⟨H2, hH2⟩ : ∃ H2, H2 = Hb.set (m.h.length + 2) (.cells [.r (.sl U d.n.toNat none)] ty_Suint8 0) := ⟨_, rfl⟩
      have gE2 : H2[m.h.length + 3]? = some (.cells [i64 0] ty_api_Errno 0) := by rw [hH2, List.getElem?_set_ne (by omega)]; exact gE
      have hsame : H2.set (m.h.length + 3) (.cells [i64 0] ty_api_Errno 0) = H2 := set_same gE2
      have hor : (0 < d.n.toNat) = True := eq_true (by omega)
      have hs2 : ∃ s2, Den C (lpW d m.h.length D R o).bd { env := ((lpW d m.h.length D R o).tt, .own X 0 0) :: ((lpW d m.h.length D R o).pt, .r (.agg I)) :: (lpW d m.h.length D R o).E, m := { h := Hb, wr := W }, round := some (m.h.length + 5 + 1) } .ret s2 ∧ s2.m.h = H2 ∧ s2.m.wr = (m.h.length + 3) :: (m.h.length + 2) :: W := by
        refine ⟨_, .ofN ⟨c1 + c2 + c3, fun k hk => by
          simp [lpW, b_tally_Witness_0, dn_drawF, denF, denFI, stepF, slotFree, slotOf, foot, avIdx, pairsOk, apartL_nil, wrAll_self, gX, gO, gW, gE, hT, rs_len, lR, tR, l40, t40, k1 k (by omega), k2 k (by omega), e1, hRn, bound, b1, b2, hor, k3 k (by omega), ← hH2, gE2, hsame]
          rfl⟩, rfl, rfl⟩
      obtain ⟨s2, k4, m4, w4⟩ := hs2
      refine ⟨s2, .ret, v, k4, .inr ⟨rfl, rfl⟩, ?_, ?_, ?_, ?_, ?_, fun j hj => .inl hj, .inl rfl⟩
      · rw [m4]
        show H2.take (m.h.length + 7) = _
        rw [hH2, List.take_set, htk]
        unfold Lp.low
        rw [List.append_assoc, List.append_assoc, set_mid]
        have : wiR (some (t.take d.n.toNat)) = .sl U d.n.toNat none := by rw [← hu, hU]; unfold wiR; simp only [hul]
        simp only [lpW, this]; rfl
      · rw [m4]
        exact hG.same fun j hj => by
          have := (hG.idx j hj).1
          rw [hH2, List.getElem?_set_ne (by omega)]
      · intro j h1 h2 h3
        have h1 : m.h.length + 7 ≤ j := h1
        rw [m4, hH2, List.getElem?_set_ne (by omega)]
      · rw [m4, hH2, List.length_set]; exact Nat.le_refl _
      · intro x hx
        rw [w4] at hx
        simp only [List.mem_cons] at hx
        rcases hx with rfl | rfl | hx
        · exact .inr (by omega)
        · exact .inr (by omega)
        · exact .inl hx
    · rw [if_neg e]
      have e1 : (o' == o) = false := by simpa using e
      have hs2 : ∃ s2, Den C (lpW d m.h.length D R o).bd { env := ((lpW d m.h.length D R o).tt, .own X 0 0) :: ((lpW d m.h.length D R o).pt, .r (.agg I)) :: (lpW d m.h.length D R o).E, m := { h := Hb, wr := W }, round := some (m.h.length + 5 + 1) } .norm s2 ∧ s2.m = { h := Hb, wr := W } := by
        refine ⟨_, .ofN ⟨c1 + c2, fun k hk => by
          simp [lpW, b_tally_Witness_0, dn_drawF, denF, denFI, stepF, slotFree, slotOf, foot, avIdx, pairsOk, apartL_nil, wrAll_self, gX, gO, gW, gE, hT, rs_len, lR, tR, l40, t40, k1 k (by omega), k2 k (by omega), e1]
          rfl⟩, rfl⟩
      obtain ⟨s2, k4, m4⟩ := hs2
      refine ⟨s2, .norm, v, k4, .inl ⟨rfl, rfl⟩, ?_⟩
      rw [m4]
      exact ⟨htk, hG, fun _ _ _ _ => rfl, Nat.le_refl _, fun x hx => .inl hx, fun j hj => .inl hj, .inl rfl⟩
end
end Go.AM.T
/- What the functions compute (own work). -/
namespace Go.AM.T
open Go Go.AM
attribute [local simp] so_mov so_pick so_alloc so_box so_build so_slit so_load so_store so_nilc so_bin so_beq so_eqs so_eqn so_eqnl so_not so_conv so_s2b so_mkfn so_slcA so_padd so_fld so_idxA so_idxV so_idxT so_look so_mupd so_mkmap so_mksl so_ext so_app so_lenT so_lenM so_min so_max so_cpy so_clr so_mkif so_tass so_lenS so_idxS so_slc
attribute [local simp] dn_skip dn_label dn_ret dn_exit dn_scope dn_keep dn_reg dn_draw0 noSlots denE denEI stepE  sd_mov sd_pick sd_build sd_load sd_store sd_nilc sd_bin sd_beq sd_eqs sd_eqn sd_eqnl sd_not sd_conv sd_s2b sd_mkfn sd_slc sd_slcA sd_padd sd_fld sd_idxS sd_idxA sd_idxV sd_idxT sd_look sd_mupd sd_ext sd_app sd_lenS sd_lenT sd_lenM sd_min sd_max sd_mkif sd_tass sd_call sd_slit dn_seq dn_cond dn_block dn_loop kn_call denIs denI denOp wants ev eget putD binL enumFrom AV.bool? AV.int? ekeep evs evp runV fin runDefs resAll resOf tupOf unit AV.cells okV ok1 Value.oneCell' fill setN rcells rs_nil rs_cons load_own load_cons mkAgg_rs storeN jmpOut
attribute [local simp] dvL dv1t dvAt mkAgg2 dv0 dv1 dv2 dv3 dv4 dv5 dv6 dv7 dv8 dv9 dv10 dvA dvN dvAll C_fz fzr
theorem gq {l : List Blk} {i : Nat} {b : Blk} (h : l[i]? = some b) : ∀ hh, l[i]'hh = b := fun hh => by rw [List.getElem?_eq_getElem hh] at h; exact Option.some.inj h
def wiF (d : Div) (o : Int) : Option (List Int) := (rtOf d).find? fun u => outcomeI d (numsL d u) == o
theorem wi_stop (d : Div) (o : Int) (u : List Int) : ∀ l : List (List Int), (foldS (wiStep d o) (some u) l).1 = some u
  | [] => rfl
  | t :: l => rfl
theorem wi_fold {d : Div} (o : Int) : ∀ us : List (List Int), (∀ u ∈ us, u.length = d.n.toNat) → (foldS (wiStep d o) none (us.map pad)).1 = us.find? fun u => outcomeI d (numsL d u) == o
  | [], _ => rfl
  | u :: us, h => by
    rw [List.map_cons, foldS_cons, List.find?_cons]
    have hp : (pad u).take d.n.toNat = u := by
      unfold pad; rw [List.take_append_of_le_length (by rw [h u (by simp)]; exact Nat.le_refl _), List.take_of_length_le (by rw [h u (by simp)]; exact Nat.le_refl _)]
    have hst : wiStep d o none (pad u) = if outcomeI d (numsL d u) = o then (some u, false) else (none, true) := by
      unfold wiStep; simp only [nums_pad, hp]
    rw [hst]
    by_cases e : outcomeI d (numsL d u) = o
    · rw [if_pos e]; simp [e]
    · rw [if_neg e]
      have hsh : (foldS (wiStep d o) none (us.map pad)).1 = us.find? fun u => outcomeI d (numsL d u) == o := wi_fold o us fun x hx => h x (by simp [hx])
      have he : (outcomeI d (numsL d u) == o) = false := by simpa using e
      rw [he]
      exact hsh
theorem wi_F {d : Div} (h : d.n ≤ 40) (o : Int) : (foldS (wiStep d o) none (truthsOf d)).1 = wiF d o := by
  rw [truthsOf_rt h]
  exact wi_fold o _ fun u hu => (rt_len u hu)
where rt_len {d : Div} : ∀ u ∈ rtOf d, u.length = d.n.toNat := fun u hu => by have := rtF_len _ _ _ hu; simpa using this
def askI (d : Div) (o : Int) : Int := if rightB d = true then (if 2 < o then 2 else openI d) else 1
def witE (d : Div) (o : Int) : Int := if askI d o = 0 then (if (wiF d o).isSome then 0 else 7) else askI d o
def witR (d : Div) (o : Int) : RV := if askI d o = 0 then wiR (wiF d o) else .nil
section
variable {d : Div} {a0 a1 n0 n1 p q : RV}
theorem Witness_spec (hs : DivS d a0 a1 n0 n1 p q) (hb : Small d) (hru : 0 ≤ d.rule ∧ d.rule ≤ 255) (o : Int) (m : Mem) : CallR C (fnv fn_tally_Witness) [.r (.agg (divC d a0 a1 n0 n1 p q)), u8 o] m
    (.ret (.tup [.r (witR d o), i64 (witE d o)]) m) := by
  obtain ⟨R, hRR⟩ : ∃ R, R = (if openI d = 0 then lookC d (divC d a0 a1 n0 n1 p q) else z_tally_looked) := ⟨_, rfl⟩
  have lR : R.length = 91 := by rw [hRR]; split <;> rfl
  have hRt : List.take 91 (rs R) = rs R := List.take_of_length_le (by rw [rs_len]; omega)
  obtain ⟨Z, hZ⟩ : ∃ Z, Z = z_tally_looked := ⟨_, rfl⟩
  have hZl : Z.length = 91 := by rw [hZ]; rfl
  have hZd : List.drop 91 (rs Z) = [] := List.drop_eq_nil_of_le (by rw [rs_len]; omega)
  have hd11 : (divC d a0 a1 n0 n1 p q).length = 11 := rfl
  obtain ⟨H0, hH0⟩ : ∃ H0, H0 = m.h ++ [.cells (rs (divC d a0 a1 n0 n1 p q)) ty_tally_Division 0, .cells [u8 o] ty_uint8 0, .cells [.r .nil] ty_Suint8 0, .cells [i64 0] ty_api_Errno 0] := ⟨_, rfl⟩
  obtain ⟨c0, k0⟩ := valid_spec hs hb hru { h := H0 }
  obtain ⟨c1, k1⟩ := topen_spec hs hb hru { h := H0 }
  rw [← hRR] at k1
  rw [valid_right] at k0
  have b0 : H0[m.h.length]? = some (.cells (rs (divC d a0 a1 n0 n1 p q)) ty_tally_Division 0) := by simp [hH0]
  have b1 : H0[m.h.length + 1]? = some (.cells [u8 o] ty_uint8 0) := by rw [hH0, get_midk]; rfl
  have b2 : H0[m.h.length + 2]? = some (.cells [.r .nil] ty_Suint8 0) := by rw [hH0, get_midk]; rfl
  have b3 : H0[m.h.length + 3]? = some (.cells [i64 0] ty_api_Errno 0) := by rw [hH0, get_midk]; rfl
  have hl0 : H0.length = m.h.length + 4 := by simp [hH0]
  have ht0 : H0.take m.h.length = m.h := by simp [hH0]
  have hs2 : H0.set (m.h.length + 2) (.cells [.r .nil] ty_Suint8 0) = H0 := set_same b2
  obtain ⟨D, hD⟩ : ∃ D, D = divC d a0 a1 n0 n1 p q := ⟨_, rfl⟩
  have fin : ∀ (e : Int) (c : Nat) (W : List Nat), (∀ x ∈ W, m.h.length ≤ x) → (∀ k, c ≤ k → runV (Kn C k) C.fz a_tally_Witness [.r (.agg (divC d a0 a1 n0 n1 p q)), u8 o] m.h = some (.tup [.r .nil, i64 e], { h := H0.set (m.h.length + 3) (.cells [i64 e] ty_api_Errno 0), wr := W })) →
      CallR C (fnv fn_tally_Witness) [.r (.agg (divC d a0 a1 n0 n1 p q)), u8 o] m (.ret (.tup [.r .nil, i64 e]) m) := fun e c W hW h =>
    CallR.eval rfl rfl prog_tally_Witness rfl ⟨c, fun k hk => by simpa using h k hk⟩ (by rw [List.take_set_of_le (by omega)]; exact ht0) hW
  have se : ∀ (e : Int), (H0.set (m.h.length + 3) (.cells [i64 e] ty_api_Errno 0))[m.h.length + 3]? = some (.cells [i64 e] ty_api_Errno 0) ∧ (H0.set (m.h.length + 3) (.cells [i64 e] ty_api_Errno 0))[m.h.length + 2]? = some (.cells [.r .nil] ty_Suint8 0) := fun e =>
    ⟨List.getElem?_set_self (by omega), by rw [List.getElem?_set_ne (by omega)]; exact b2⟩
  cases hr : rightB d with
  | false =>
    have e1 : askI d o = 1 := by simp [askI, hr]
    have e2 : witE d o = 1 := by simp [witE, e1]
    have e3 : witR d o = .nil := by simp [witR, e1]
    rw [hr] at k0
    rw [e2, e3]
    have s1 := (se 1).1
    have s2 := (se 1).2
    refine fin 1 c0 [m.h.length + 3, m.h.length + 2] (by simp) fun k hk => ?_
    rw [← hD] at hH0 k0 b0 hd11 ⊢
    have hDt : List.take 11 (rs D) = rs D := List.take_of_length_le (by rw [rs_len]; omega)
    simp [a_tally_Witness, hd11, hDt, rs_len, ← hH0, b0, b1, b2, b3, k0 k hk, hs2, s1, s2, fz, fzs]
  | true =>
    rw [hr] at k0
    by_cases ho2 : 2 < o
    · have e1 : askI d o = 2 := by simp [askI, hr, ho2]
      have e2 : witE d o = 2 := by simp [witE, e1]
      have e3 : witR d o = .nil := by simp [witR, e1]
      rw [e2, e3]
      have s1 := (se 2).1
      have s2 := (se 2).2
      have ho2' : (2 < o) = True := eq_true ho2
      refine fin 2 c0 [m.h.length + 3, m.h.length + 2] (by simp) fun k hk => ?_
      rw [← hD] at hH0 k0 b0 hd11 ⊢
      have hDt : List.take 11 (rs D) = rs D := List.take_of_length_le (by rw [rs_len]; omega)
      simp [a_tally_Witness, hd11, hDt, rs_len, ← hH0, b0, b1, b2, b3, k0 k hk, ho2', hs2, s1, s2, fz, fzs]
    · have ho2' : (2 < o) = False := eq_false ho2
      have e1 : askI d o = openI d := by simp [askI, hr, ho2]
      obtain ⟨H1, hH1⟩ : ∃ H1, H1 = H0 ++ [.cells (rs R) ty_tally_looked 0] := ⟨_, rfl⟩
      have hget : ∀ b : Blk, (H0 ++ [b])[H0.length]? = some b := fun b => by simp
      have hset : ∀ b b' : Blk, (H0 ++ [b]).set H0.length b' = H0 ++ [b'] := fun b b' => by simp
      have d1 : H1[m.h.length + 1]? = some (.cells [u8 o] ty_uint8 0) := by rw [hH1, List.getElem?_append_left (by omega)]; exact b1
      have d2 : H1[m.h.length + 2]? = some (.cells [.r .nil] ty_Suint8 0) := by rw [hH1, List.getElem?_append_left (by omega)]; exact b2
      have d3 : H1[m.h.length + 3]? = some (.cells [i64 0] ty_api_Errno 0) := by rw [hH1, List.getElem?_append_left (by omega)]; exact b3
      have d4 : H1[m.h.length + 4]? = some (.cells (rs R) ty_tally_looked 0) := by rw [hH1, ← hl0]; simp
      have hl1 : H1.length = m.h.length + 5 := by simp [hH1, hl0]
      have hs21 : H1.set (m.h.length + 2) (.cells [.r .nil] ty_Suint8 0) = H1 := set_same d2
      by_cases e : openI d = 0
      · rw [e] at e1
        rw [if_pos e] at hRR
        rw [e] at k1
        have hn := right_n hr
        have hok := wi_ok hs hr hru.1 m (D := D) o hRR
        have hcnt := truthsOf_count e
        obtain ⟨H', W', v, ⟨c2, k2⟩, htk, hG, hw⟩ := Lp.range hok (by show 8 ≠ 26; omega) hn (R := R) (fun m => by rw [hRR]; exact lookC_p0 m) (fun m k h1 h2 => by rw [hRR]; exact lookC_pm m k h1 h2) (q := 25) rfl none rfl (by show 0 + (truthsOf d).length ≤ 10000; omega) rfl rfl [m.h.length + 4]
        have hF : (foldS (lpW d m.h.length D R o).step none (truthsOf d)).1 = wiF d o := wi_F hn.2 o
        rw [hF] at htk hG k2
        have hPm : m.h ++ (lpW d m.h.length D R o).P none (.r .nil) = H1 := by
          rw [hH1, hH0, ← hD]
          simp [lpW, wiR]
        rw [hPm] at k2
        obtain ⟨E, hE⟩ : ∃ E : Env, E = [(3, .own (m.h.length + 1) 0 0), (4, .own (m.h.length + 2) 0 0), (5, .own (m.h.length + 3) 0 0), (6, .own (m.h.length + 4) 0 0), (25, .r (.fn fn_tally_looked_truths_1 [] [.ptr R]))] := ⟨_, rfl⟩
        have k2 : ∀ k, c2 ≤ k → den (Kn C k) (.rangeF (.t 25) [26] s_tally_Witness_0 b_tally_Witness_0) { env := [(3, .own (m.h.length + 1) 0 0), (4, .own (m.h.length + 2) 0 0), (5, .own (m.h.length + 3) 0 0), (6, .own (m.h.length + 4) 0 0), (25, .r (.fn fn_tally_looked_truths_1 [] [.ptr R]))], m := { h := H1, wr := [m.h.length + 4] } } = some (if (wiF d o).isNone = true then .norm else .ret, { env := [(3, .own (m.h.length + 1) 0 0), (4, .own (m.h.length + 2) 0 0), (5, .own (m.h.length + 3) 0 0), (6, .own (m.h.length + 4) 0 0), (25, .r (.fn fn_tally_looked_truths_1 [] [.ptr R]))], m := { h := H', wr := W' }, defs := [.dfr (m.h.length + 5)] }) := k2
        have htk : H'.take (m.h.length + 7) = m.h ++ [.cells (rs D) ty_tally_Division 0, .cells [u8 o] ty_uint8 0, .cells [.r (wiR (wiF d o))] ty_Suint8 0, .cells [i64 0] ty_api_Errno 0, .cells (rs R) ty_tally_looked 0] ++ [.dfr, .dead] := htk
        have hlt : ∀ j, j < 7 → m.h.length + j < H'.length := fun j hj => by
          have := congrArg List.length htk
          rw [List.length_take] at this
          simp at this; omega
        have g2 : H'[m.h.length + 2]? = some (.cells [.r (wiR (wiF d o))] ty_Suint8 0) := by rw [take_get htk (by omega), List.append_assoc, get_midk]; rfl
        have g3 : H'[m.h.length + 3]? = some (.cells [i64 0] ty_api_Errno 0) := by rw [take_get htk (by omega), List.append_assoc, get_midk]; rfl
        have g5 : H'[m.h.length + 5]? = some .dfr := by rw [take_get htk (by omega), List.append_assoc, get_midk]; rfl
        have ht : H'.take m.h.length = m.h := by
          have := congrArg (List.take m.h.length) htk
          rw [List.take_take, Nat.min_eq_left (by omega), List.append_assoc, List.take_left'] at this
          · exact this
          · rfl
        obtain ⟨c4, k4⟩ := truths_spec lR { h := H1, wr := [m.h.length + 4] }
        have hw' : ∀ x ∈ W', m.h.length ≤ x := fun x hx => by
          rcases hw x hx with h | h
          · simp at h; omega
          · exact h
        cases hF2 : wiF d o with
        | some u =>
          have e2 : witE d o = 0 := by simp [witE, e1, hF2]
          have e3 : witR d o = wiR (some u) := by simp [witR, e1, hF2]
          rw [hF2] at k2 g2
          rw [e2, e3]
          obtain ⟨U, hU⟩ : ∃ U, U = wiR (some u) := ⟨_, rfl⟩
          rw [← hU] at g2 ⊢
          obtain ⟨H4, hH4⟩ : ∃ H4, H4 = H'.set (m.h.length + 5) .dead := ⟨_, rfl⟩
          have i2 : H4[m.h.length + 2]? = some (.cells [.r U] ty_Suint8 0) := by rw [hH4, List.getElem?_set_ne (by omega)]; exact g2
          have i3 : H4[m.h.length + 3]? = some (.cells [i64 0] ty_api_Errno 0) := by rw [hH4, List.getElem?_set_ne (by omega)]; exact g3
          refine CallR.eval (m1 := { h := H4, wr := (m.h.length + 5) :: W' }) rfl rfl prog_tally_Witness rfl ⟨c0 + c1 + c2 + c4, fun k hk => ?_⟩ (by rw [hH4, List.take_set_of_le (by omega)]; exact ht) (by
            intro x hx
            rcases List.mem_cons.1 hx with rfl | hx
            · omega
            · exact hw' x hx)
          rw [← hD] at hH0 k0 k1 b0 hd11 ⊢
          have hDt : List.take 11 (rs D) = rs D := List.take_of_length_le (by rw [rs_len]; omega)
          simp [a_tally_Witness, hd11, hDt, rs_len, ← hH0, b0, b1, b2, b3, gq b0, gq b1, gq b2, gq b3, k0 k (by omega), ho2', k1 k (by omega), ← hZ, hZl, hZd, hl0, hget, hset, ← hH1, lR, hRt, d1, d2, d3, d4, k4 k (by omega), k2 k (by omega), g5, ← hH4, i2, i3, fz, fzs]
        | none =>
          have e2 : witE d o = 7 := by simp [witE, e1, hF2]
          have e3 : witR d o = .nil := by simp [witR, e1, hF2, wiR]
          rw [hF2] at k2 g2
          rw [e2, e3]
          have g2 : H'[m.h.length + 2]? = some (.cells [.r .nil] ty_Suint8 0) := g2
          have hsm : H'.set (m.h.length + 2) (.cells [.r .nil] ty_Suint8 0) = H' := set_same g2
          obtain ⟨H3, hH3⟩ : ∃ H3, H3 = H'.set (m.h.length + 3) (.cells [i64 7] ty_api_Errno 0) := ⟨_, rfl⟩
          have g35 : H3[m.h.length + 5]? = some .dfr := by rw [hH3, List.getElem?_set_ne (by omega)]; exact g5
          obtain ⟨H4, hH4⟩ : ∃ H4, H4 = H3.set (m.h.length + 5) .dead := ⟨_, rfl⟩
          have i2 : H4[m.h.length + 2]? = some (.cells [.r .nil] ty_Suint8 0) := by rw [hH4, List.getElem?_set_ne (by omega), hH3, List.getElem?_set_ne (by omega)]; exact g2
          have i3 : H4[m.h.length + 3]? = some (.cells [i64 7] ty_api_Errno 0) := by rw [hH4, List.getElem?_set_ne (by omega), hH3, List.getElem?_set_self (hlt 3 (by omega))]
          refine CallR.eval (m1 := { h := H4, wr := (m.h.length + 5) :: (m.h.length + 3) :: (m.h.length + 2) :: W' }) rfl rfl prog_tally_Witness rfl ⟨c0 + c1 + c2 + c4, fun k hk => ?_⟩ (by rw [hH4, List.take_set_of_le (by omega), hH3, List.take_set_of_le (by omega)]; exact ht) (by
            intro x hx
            simp only [List.mem_cons] at hx
            rcases hx with rfl | rfl | rfl | hx
            · omega
            · omega
            · omega
            · exact hw' x hx)
          rw [← hD] at hH0 k0 k1 b0 hd11 ⊢
          have hDt : List.take 11 (rs D) = rs D := List.take_of_length_le (by rw [rs_len]; omega)
          simp [a_tally_Witness, hd11, hDt, rs_len, ← hH0, b0, b1, b2, b3, gq b0, gq b1, gq b2, gq b3, k0 k (by omega), ho2', k1 k (by omega), ← hZ, hZl, hZd, hl0, hget, hset, ← hH1, lR, hRt, d1, d2, d3, d4, k4 k (by omega), k2 k (by omega), g2, g3, hsm, ← hH3, g35, ← hH4, i2, i3, fz, fzs]
      · have e2 : witE d o = openI d := by simp [witE, e1, e]
        have e3 : witR d o = .nil := by simp [witR, e1, e]
        rw [e2, e3]
        have e' : (openI d == 0) = false := by simpa using e
        obtain ⟨H3, hH3⟩ : ∃ H3, H3 = H1.set (m.h.length + 3) (.cells [i64 (openI d)] ty_api_Errno 0) := ⟨_, rfl⟩
        have i2 : H3[m.h.length + 2]? = some (.cells [.r .nil] ty_Suint8 0) := by rw [hH3, List.getElem?_set_ne (by omega)]; exact d2
        have i3 : H3[m.h.length + 3]? = some (.cells [i64 (openI d)] ty_api_Errno 0) := by rw [hH3, List.getElem?_set_self (by omega)]
        refine CallR.eval (m1 := { h := H3, wr := [m.h.length + 3, m.h.length + 2, m.h.length + 4] }) rfl rfl prog_tally_Witness rfl ⟨c0 + c1, fun k hk => ?_⟩ (by rw [hH3, List.take_set_of_le (by omega), hH1, List.take_append_of_le_length (by omega)]; exact ht0) (by simp)
        rw [← hD] at hH0 k0 k1 b0 hd11 ⊢
        have hDt : List.take 11 (rs D) = rs D := List.take_of_length_le (by rw [rs_len]; omega)
        simp [a_tally_Witness, hd11, hDt, rs_len, ← hH0, b0, b1, b2, b3, gq b0, gq b1, gq b2, gq b3, k0 k (by omega), ho2', k1 k (by omega), ← hZ, hZl, hZd, hl0, hget, hset, ← hH1, lR, hRt, d1, d2, d3, d4, e, e', hs21, ← hH3, i2, i3, fz, fzs]
end
end Go.AM.T
/- What the functions compute (own work). -/
namespace Go.AM.T
open Go Go.AM
attribute [local simp] so_mov so_pick so_alloc so_box so_build so_slit so_load so_store so_nilc so_bin so_beq so_eqs so_eqn so_eqnl so_not so_conv so_s2b so_mkfn so_slcA so_padd so_fld so_idxA so_idxV so_idxT so_look so_mupd so_mkmap so_mksl so_ext so_app so_lenT so_lenM so_min so_max so_cpy so_clr so_mkif so_tass so_lenS so_idxS so_slc
attribute [local simp] dn_skip dn_label dn_ret dn_exit dn_scope dn_keep dn_reg dn_draw0 noSlots denE denEI stepE  sd_mov sd_pick sd_build sd_load sd_store sd_nilc sd_bin sd_beq sd_eqs sd_eqn sd_eqnl sd_not sd_conv sd_s2b sd_mkfn sd_slc sd_slcA sd_padd sd_fld sd_idxS sd_idxA sd_idxV sd_idxT sd_look sd_mupd sd_ext sd_app sd_lenS sd_lenT sd_lenM sd_min sd_max sd_mkif sd_tass sd_call sd_slit dn_seq dn_cond dn_block dn_loop kn_call denIs denI denOp wants ev eget putD binL enumFrom AV.bool? AV.int? ekeep evs evp runV fin runDefs resAll resOf tupOf unit AV.cells okV ok1 Value.oneCell' fill setN rcells rs_nil rs_cons load_own load_cons mkAgg_rs storeN jmpOut
attribute [local simp] dvL dv1t dvAt mkAgg2 dv0 dv1 dv2 dv3 dv4 dv5 dv6 dv7 dv8 dv9 dv10 dvA dvN dvAll C_fz fzr
def pkF {α : Type} (x : Option Nat) (V : Nat → α) (w : α) : α := match x with | some j => V j | none => w
/-- One truth, where the law looks for an outcome. -/
def awStep (o oc : Int) (P : Nat → Bool) (vs : Nat → RV) (s : List Int × RV) (j : Nat) : List Int × RV :=
  if P j = true then (if s.1 = [] ∨ s.1.getD (s.1.length - 1) 0 ≠ o then s.1 ++ [o] else s.1, if o = oc then vs j else s.2) else s
def awF (o oc : Int) (P : Nat → Bool) (vs : Nat → RV) : Nat → List Int × RV → List Int × RV
  | 0, s => s
  | k + 1, s => awF o oc P vs k (awStep o oc P vs s k)
theorem awF_w (o oc : Int) (P : Nat → Bool) (vs : Nat → RV) : ∀ (k : Nat) (s : List Int × RV), (awF o oc P vs k s).2 = pkF ((List.range k).find? P) (fun j => if o = oc then vs j else s.2) s.2
  | 0, s => rfl
  | k + 1, s => by
    rw [awF, awF_w o oc P vs k, List.range_succ, List.find?_append]
    cases h : (List.range k).find? P with
    | some j =>
      simp only [Option.some_or, pkF]
      split
      · rfl
      · unfold awStep
        split
        · simp only [if_neg ‹¬o = oc›]
        · rfl
    | none =>
      simp only [Option.none_or, pkF]
      unfold awStep
      cases hp : P k with
      | true => simp [hp]
      | false => simp [hp]
theorem awF_1 (o oc : Int) (P : Nat → Bool) (vs : Nat → RV) : ∀ (k : Nat) (s : List Int × RV) (al : List Int), (s.1 = al ∧ (∀ x ∈ al, x ≠ o)) ∨ s.1 = al ++ [o] →
    (awF o oc P vs k s).1 = if s.1 = al ++ [o] ∨ (List.range k).any P = true then al ++ [o] else al
  | 0, s, al, h => by
    rcases h with ⟨h, _⟩ | h
    · rw [awF, h]; simp
    · rw [awF, h]; simp
  | k + 1, s, al, h => by
    rw [awF]
    have hlast : ∀ l : List Int, (l ++ [o]).getD ((l ++ [o]).length - 1) 0 = o := fun l => by simp
    cases hp : P k with
    | false =>
      have : awStep o oc P vs s k = s := by unfold awStep; rw [if_neg (by simp [hp])]
      rw [this, awF_1 o oc P vs k s al h, List.range_succ, List.any_append]
      simp [hp]
    | true =>
      have hst : (awStep o oc P vs s k).1 = al ++ [o] := by
        unfold awStep
        rw [if_pos hp]
        rcases h with ⟨h, hx⟩ | h
        · simp only [h]
          rw [if_pos]
          by_cases e : al = []
          · exact .inl e
          · refine .inr (hx _ ?_)
            have hl : al.length - 1 < al.length := by have := List.length_pos_iff.2 e; omega
            rw [getD_get hl]; exact List.getElem_mem hl
        · simp only [h]
          rw [if_neg]
          simp
      rw [awF_1 o oc P vs k _ al (.inr hst), if_pos (.inl hst), List.range_succ, List.any_append, if_pos]
      simp [hp]
section
variable {d : Div} {a0 a1 n0 n1 p q : RV}
theorem allows_inner (hs : DivS d a0 a1 n0 n1 p q) (hb : Small d) (hr : rightB d = true) (h0 : 0 ≤ d.rule) {vs : List RV} {us : List (List Int)} (hvs : SlT vs us) (hul : ∀ u ∈ us, u.length = d.n.toNat ∧ VOk u) (hcnt : us.length < 2 ^ 62) {oc : Int} {o : Nat} (ho : o ≤ 2) {v5 v6 v7 v8 v10 : AV}
    {P : Nat → Bool} (hP : P = fun j => outcomeI d (numsL d (us.getD j [])) == (o : Int)) {V : Nat → RV} (hV : V = fun j => vs.getD j .nil) :
    ∀ (k : Nat) (al : List Int) (w : RV) (av : AV) (s : St), k ≤ us.length → al.length + k ≤ 100000000 → ekeep [1, 2, 5, 6, 7, 8, 10, 11, 12, 13, 14, 15] s.env = [(1, u8 oc), (2, .own 0 0 0), (5, v5), (6, v6), (7, v7), (8, v8), (10, v10), (11, av), (12, .r w), (13, .r (.sl vs us.length none)), (14, i64 o), (15, i64 ((k : Int) - 1))] →
      s.m.h[0]? = some (.cells (rs (divC d a0 a1 n0 n1 p q)) ty_ref07_Division 0) → GS s.m.h 1 ty_uint8 1 (ints .u8 al) al.length av → s.defs = [] →
      ∃ s' av', Loop C [1, 2, 5, 6, 7, 8, 10, 11, 12, 13, 14, 15] l_law07_TallyAllows_0 s (.exit 2) s' ∧ s'.m.h[0]? = some (.cells (rs (divC d a0 a1 n0 n1 p q)) ty_ref07_Division 0) ∧
        GS s'.m.h 1 ty_uint8 1 (ints .u8 (awF o oc P V k (al, w)).1) (awF o oc P V k (al, w)).1.length av' ∧ s'.defs = [] ∧
        ekeep [1, 2, 5, 6, 7, 8, 10, 11, 12, 13, 14] s'.env = [(1, u8 oc), (2, .own 0 0 0), (5, v5), (6, v6), (7, v7), (8, v8), (10, v10), (11, av'), (12, .r (awF o oc P V k (al, w)).2), (13, .r (.sl vs us.length none)), (14, i64 o)] := by
  intro k
  induction k with
  | zero =>
    intro al w av s hk hal he hH hG hd
    refine ⟨_, av, .stop (.of fun K => by rw [he]; simp [l_law07_TallyAllows_0]; rfl) (by simp), by simpa using hH, by simpa [awF] using hG, by simp [hd], by simp [awF]⟩
  | succ k ih =>
    intro al w av s hk hal he hH hG hd
    obtain ⟨M, hMM⟩ : ∃ M, M = s.m := ⟨_, rfl⟩
    obtain ⟨H, W⟩ := M
    rw [← hMM] at hH hG
    simp only at hH hG
    have hkl : k < us.length := by omega
    have ek : ((k + 1 : Nat) : Int) - 1 = k := by omega
    rw [ek] at he
    have e0 : ((0 : Int) ≤ (k : Int)) = True := eq_true (by omega)
    have w1 : IntKind.wrap .i64 ((k : Int) - 1) = (k : Int) - 1 := by rw [w64] <;> omega
    have w8 : IntKind.wrap .u8 (o : Int) = o := by rw [wu8] <;> omega
    obtain ⟨u, hu⟩ : ∃ u, u = us[k] := ⟨_, rfl⟩
    have hum := hul u (by rw [hu]; exact List.getElem_mem hkl)
    have hvl := hvs.length
    obtain ⟨v, hv1, hv2⟩ := hvs.getR (i := k) (y := u) (by rw [hu]; exact List.getElem?_eq_getElem hkl)
    have hat : atOf 1 (.r (.sl vs us.length none)) (k : Int) = some (.r (.ptr (vs.drop k))) := by
      simp only [atOf]; rw [if_pos ⟨by omega, by omega⟩]; simp
    have hld : ∀ m, loadV m (.r (.ptr (vs.drop k))) 1 false = some (.r v) := fun m => by
      obtain ⟨h1, h2⟩ := List.getElem?_eq_some_iff.1 hv1
      rw [List.drop_eq_getElem_cons h1, load_cons, h2]
    have hVk : V k = v := by rw [hV]; simp [hv1]
    obtain ⟨c1, k1⟩ := refOf_spec hs hb hr hv2 hum.1 hum.2 { h := H }
    have hnl := nums_le hr u
    obtain ⟨c2, k2⟩ := refOutcome_spec (a0 := a0) (a1 := a1) (n0 := n0) (n1 := n1) (p := p) (q := q) hr h0 (numsL d u) hnl.1 hnl.2 { h := H }
    obtain ⟨n, hn⟩ : ∃ n, n = numsL d u := ⟨_, rfl⟩
    obtain ⟨q', hq'⟩ : ∃ q', q' = outcomeI d n := ⟨_, rfl⟩
    rw [← hn] at k1 k2
    rw [← hq'] at k2
    simp only [nmR] at k1 k2
    have hPk : P k = (q' == (o : Int)) := by rw [hP, hq', hn, hu]; simp only [getD_get hkl]
    have hd11 : (divC d a0 a1 n0 n1 p q).length = 11 := rfl
    obtain ⟨D, hD⟩ : ∃ D, D = divC d a0 a1 n0 n1 p q := ⟨_, rfl⟩
    rw [← hD] at k1 k2 hH hd11 ih ⊢
    have hDt : List.take 11 (rs D) = rs D := List.take_of_length_le (by rw [rs_len]; omega)
    have hHl := getElem?_lt hH
    by_cases eo : q' = (o : Int)
    · have eq1 : (q' != (o : Int)) = false := by simp [eo]
      have hP1 : P k = true := by rw [hPk]; simpa using eo
      have hlen : lenOf av = some al.length := by
        cases hG with
        | nil e _ => rw [e]; rfl
        | osl => rfl
      by_cases hap : al = [] ∨ al.getD (al.length - 1) 0 ≠ (o : Int)
      · obtain ⟨B, g, H', W', hA, hB, hG2, hfr, hBx, hl2, hkt, hW'⟩ := hG.app2 (new := [.lit (.int .u8 o)]) (k := 1) W 1 (some 1) (by omega) (by omega) rfl ⟨by omega, by omega⟩
        have hH' : H'[0]? = some (.cells (rs D) ty_ref07_Division 0) := by rw [take_get hkt (by omega), List.getElem?_take_of_lt (by omega)]; exact hH
        have hG3 : GS H' 1 ty_uint8 1 (ints .u8 (al ++ [(o : Int)])) (al ++ [(o : Int)]).length (.osl B g 0 (al.length + 1) 1 none) := by
          rw [show ints .u8 (al ++ [(o : Int)]) = ints .u8 al ++ [.lit (.int .u8 o)] by simp [ints], show (al ++ [(o : Int)]).length = al.length + 1 by simp]
          exact hG2
        have hst : awStep o oc P V (al, w) k = (al ++ [(o : Int)], if (o : Int) = oc then v else w) := by
          unfold awStep
          rw [if_pos hP1]
          simp only [if_pos hap, hVk]
        obtain ⟨w', hw'⟩ : ∃ w', w' = if (o : Int) = oc then v else w := ⟨_, rfl⟩
        rw [← hw'] at hst
        have hrd : ∃ s1, Den C l_law07_TallyAllows_0 { s with env := ekeep [1, 2, 5, 6, 7, 8, 10, 11, 12, 13, 14, 15] s.env } .norm s1 ∧ ekeep [1, 2, 5, 6, 7, 8, 10, 11, 12, 13, 14, 15] s1.env = [(1, u8 oc), (2, .own 0 0 0), (5, v5), (6, v6), (7, v7), (8, v8), (10, v10), (11, .osl B g 0 (al.length + 1) 1 none), (12, .r w'), (13, .r (.sl vs us.length none)), (14, i64 o), (15, i64 ((k : Int) - 1))] ∧ s1.m.h = H' ∧ s1.defs = [] := by
          rcases hap with hap | hap
          · subst hap
            have hA' : appendA { h := H, wr := W } ty_uint8 1 1 av (.r (.sl [.lit (.int .u8 o)] 1 (some 1))) = some (.osl B g 0 1 1 none, { h := H', wr := W' }) := hA
            by_cases e2 : (o : Int) = oc
            · have e2' : ((o : Int) == oc) = true := by simpa using e2
              rw [if_pos e2] at hw'
              rw [hw']
              exact ⟨_, .ofN ⟨c1 + c2, fun j hj => by
                rw [he]
                simp [l_law07_TallyAllows_0, dn_drawF, denF, denFI, stepF, slotFree, slotOf, foot, avIdx, pairsOk, apartL_nil, wrAll_self, ← hMM, e0, w1, w8, hat, hld, hH, gq hH, rs_len, hd11, hDt, allR_rs, k1 j (by omega), k2 j (by omega), eq1, hlen, allR, AV.toR, repl, hA', e2']
                rfl⟩, by simp, by simp, by simp [hd]⟩
            · have e2' : ((o : Int) == oc) = false := by simpa using e2
              rw [if_neg e2] at hw'
              rw [hw']
              exact ⟨_, .ofN ⟨c1 + c2, fun j hj => by
                rw [he]
                simp [l_law07_TallyAllows_0, dn_drawF, denF, denFI, stepF, slotFree, slotOf, foot, avIdx, pairsOk, apartL_nil, wrAll_self, ← hMM, e0, w1, w8, hat, hld, hH, gq hH, rs_len, hd11, hDt, allR_rs, k1 j (by omega), k2 j (by omega), eq1, hlen, allR, AV.toR, repl, hA', e2']
                rfl⟩, by simp, by simp, by simp [hd]⟩
          · by_cases hne : al = []
            · subst hne
              have hA' : appendA { h := H, wr := W } ty_uint8 1 1 av (.r (.sl [.lit (.int .u8 o)] 1 (some 1))) = some (.osl B g 0 1 1 none, { h := H', wr := W' }) := hA
              by_cases e2 : (o : Int) = oc
              · have e2' : ((o : Int) == oc) = true := by simpa using e2
                rw [if_pos e2] at hw'
                rw [hw']
                exact ⟨_, .ofN ⟨c1 + c2, fun j hj => by
                  rw [he]
                  simp [l_law07_TallyAllows_0, dn_drawF, denF, denFI, stepF, slotFree, slotOf, foot, avIdx, pairsOk, apartL_nil, wrAll_self, ← hMM, e0, w1, w8, hat, hld, hH, gq hH, rs_len, hd11, hDt, allR_rs, k1 j (by omega), k2 j (by omega), eq1, hlen, allR, AV.toR, repl, hA', e2']
                  rfl⟩, by simp, by simp, by simp [hd]⟩
              · have e2' : ((o : Int) == oc) = false := by simpa using e2
                rw [if_neg e2] at hw'
                rw [hw']
                exact ⟨_, .ofN ⟨c1 + c2, fun j hj => by
                  rw [he]
                  simp [l_law07_TallyAllows_0, dn_drawF, denF, denFI, stepF, slotFree, slotOf, foot, avIdx, pairsOk, apartL_nil, wrAll_self, ← hMM, e0, w1, w8, hat, hld, hH, gq hH, rs_len, hd11, hDt, allR_rs, k1 j (by omega), k2 j (by omega), eq1, hlen, allR, AV.toR, repl, hA', e2']
                  rfl⟩, by simp, by simp, by simp [hd]⟩
            · have hpos := List.length_pos_iff.2 hne
              obtain ⟨y, hy⟩ : ∃ y, y = al.length - 1 := ⟨_, rfl⟩
              obtain ⟨a, ha, hla⟩ := (Arr.ofGS hG).el y (by omega)
              have hla := hla W
              rw [← hy] at hap
              obtain ⟨z, hz⟩ : ∃ z, z = al.getD y 0 := ⟨_, rfl⟩
              rw [← hz] at hap hla
              have hz' : (z != (o : Int)) = true := by simpa using hap
              have el0 : ((al.length : Int) == 0) = false := by simp; omega
              have wl : IntKind.wrap .i64 ((al.length : Int) - 1) = y := by rw [w64] <;> omega
              by_cases e2 : (o : Int) = oc
              · have e2' : ((o : Int) == oc) = true := by simpa using e2
                rw [if_pos e2] at hw'
                rw [hw']
                exact ⟨_, .ofN ⟨c1 + c2, fun j hj => by
                  rw [he]
                  simp [l_law07_TallyAllows_0, dn_drawF, denF, denFI, stepF, slotFree, slotOf, foot, avIdx, pairsOk, apartL_nil, wrAll_self, ← hMM, e0, w1, w8, hat, hld, hH, gq hH, rs_len, hd11, hDt, allR_rs, k1 j (by omega), k2 j (by omega), eq1, hlen, hne, el0, wl, ha, hla, hz', allR, AV.toR, repl, hA, e2']
                  rfl⟩, by simp, by simp, by simp [hd]⟩
              · have e2' : ((o : Int) == oc) = false := by simpa using e2
                rw [if_neg e2] at hw'
                rw [hw']
                exact ⟨_, .ofN ⟨c1 + c2, fun j hj => by
                  rw [he]
                  simp [l_law07_TallyAllows_0, dn_drawF, denF, denFI, stepF, slotFree, slotOf, foot, avIdx, pairsOk, apartL_nil, wrAll_self, ← hMM, e0, w1, w8, hat, hld, hH, gq hH, rs_len, hd11, hDt, allR_rs, k1 j (by omega), k2 j (by omega), eq1, hlen, hne, el0, wl, ha, hla, hz', allR, AV.toR, repl, hA, e2']
                  rfl⟩, by simp, by simp, by simp [hd]⟩
        obtain ⟨s1, r1, r2, r3, r4⟩ := hrd
        obtain ⟨s', av', h1, h2, h3, h4, h5⟩ := ih (al ++ [(o : Int)]) w' (.osl B g 0 (al.length + 1) 1 none) s1 (by omega) (by simp; omega) r2 (by rw [r3]; exact hH') (by rw [r3]; exact hG3) r4
        refine ⟨s', av', .more r1 h1, h2, ?_, h4, ?_⟩
        · rw [awF, hst]; exact h3
        · rw [awF, hst]; exact h5
      · have hne : al ≠ [] := fun e => hap (.inl e)
        have hpos := List.length_pos_iff.2 hne
        have hst : awStep o oc P V (al, w) k = (al, if (o : Int) = oc then v else w) := by
          unfold awStep
          rw [if_pos hP1]
          simp only [if_neg hap, hVk]
        obtain ⟨w', hw'⟩ : ∃ w', w' = if (o : Int) = oc then v else w := ⟨_, rfl⟩
        rw [← hw'] at hst
        obtain ⟨y, hy⟩ : ∃ y, y = al.length - 1 := ⟨_, rfl⟩
        obtain ⟨a, ha, hla⟩ := (Arr.ofGS hG).el y (by omega)
        have hla := hla W
        rw [← hy] at hap
        obtain ⟨z, hz⟩ : ∃ z, z = al.getD y 0 := ⟨_, rfl⟩
        rw [← hz] at hap hla
        have hz0 : z = (o : Int) := by
          by_cases h : z = (o : Int)
          · exact h
          · exact absurd (.inr h) hap
        have hz' : (z != (o : Int)) = false := by simp [hz0]
        have el0 : ((al.length : Int) == 0) = false := by simp; omega
        have wl : IntKind.wrap .i64 ((al.length : Int) - 1) = y := by rw [w64] <;> omega
        have hrd : ∃ s1, Den C l_law07_TallyAllows_0 { s with env := ekeep [1, 2, 5, 6, 7, 8, 10, 11, 12, 13, 14, 15] s.env } .norm s1 ∧ ekeep [1, 2, 5, 6, 7, 8, 10, 11, 12, 13, 14, 15] s1.env = [(1, u8 oc), (2, .own 0 0 0), (5, v5), (6, v6), (7, v7), (8, v8), (10, v10), (11, av), (12, .r w'), (13, .r (.sl vs us.length none)), (14, i64 o), (15, i64 ((k : Int) - 1))] ∧ s1.m.h = H ∧ s1.defs = [] := by
          by_cases e2 : (o : Int) = oc
          · have e2' : ((o : Int) == oc) = true := by simpa using e2
            rw [if_pos e2] at hw'
            rw [hw']
            exact ⟨_, .ofN ⟨c1 + c2, fun j hj => by
              rw [he]
              simp [l_law07_TallyAllows_0, dn_drawF, denF, denFI, stepF, slotFree, slotOf, foot, avIdx, pairsOk, apartL_nil, wrAll_self, ← hMM, e0, w1, w8, hat, hld, hH, gq hH, rs_len, hd11, hDt, allR_rs, k1 j (by omega), k2 j (by omega), eq1, hlen, hne, el0, wl, ha, hla, hz', allR, AV.toR, repl, e2']
              rfl⟩, by simp, by simp, by simp [hd]⟩
          · have e2' : ((o : Int) == oc) = false := by simpa using e2
            rw [if_neg e2] at hw'
            rw [hw']
            exact ⟨_, .ofN ⟨c1 + c2, fun j hj => by
              rw [he]
              simp [l_law07_TallyAllows_0, dn_drawF, denF, denFI, stepF, slotFree, slotOf, foot, avIdx, pairsOk, apartL_nil, wrAll_self, ← hMM, e0, w1, w8, hat, hld, hH, gq hH, rs_len, hd11, hDt, allR_rs, k1 j (by omega), k2 j (by omega), eq1, hlen, hne, el0, wl, ha, hla, hz', allR, AV.toR, repl, e2']
              rfl⟩, by simp, by simp, by simp [hd]⟩
        obtain ⟨s1, r1, r2, r3, r4⟩ := hrd
        obtain ⟨s', av', h1, h2, h3, h4, h5⟩ := ih al w' av s1 (by omega) (by omega) r2 (by rw [r3]; exact hH) (by rw [r3]; exact hG) r4
        refine ⟨s', av', .more r1 h1, h2, ?_, h4, ?_⟩
        · rw [awF, hst]; exact h3
        · rw [awF, hst]; exact h5
    · have eq1 : (q' != (o : Int)) = true := by simpa using eo
      have hst : awStep o oc P V (al, w) k = (al, w) := by
        unfold awStep
        rw [if_neg]
        rw [hPk]; simpa using eo
      have hrd : ∃ s1, Den C l_law07_TallyAllows_0 { s with env := ekeep [1, 2, 5, 6, 7, 8, 10, 11, 12, 13, 14, 15] s.env } .norm s1 ∧ ekeep [1, 2, 5, 6, 7, 8, 10, 11, 12, 13, 14, 15] s1.env = [(1, u8 oc), (2, .own 0 0 0), (5, v5), (6, v6), (7, v7), (8, v8), (10, v10), (11, av), (12, .r w), (13, .r (.sl vs us.length none)), (14, i64 o), (15, i64 ((k : Int) - 1))] ∧ s1.m.h = H ∧ s1.defs = [] := by
        exact ⟨_, .ofN ⟨c1 + c2, fun j hj => by
          rw [he]
          simp [l_law07_TallyAllows_0, dn_drawF, denF, denFI, stepF, slotFree, slotOf, foot, avIdx, pairsOk, apartL_nil, wrAll_self, ← hMM, e0, w1, w8, hat, hld, hH, gq hH, rs_len, hd11, hDt, allR_rs, k1 j (by omega), k2 j (by omega), eq1]
          rfl⟩, by simp, by simp, by simp [hd]⟩
      obtain ⟨s1, r1, r2, r3, r4⟩ := hrd
      obtain ⟨s', av', h1, h2, h3, h4, h5⟩ := ih al w av s1 (by omega) (by omega) r2 (by rw [r3]; exact hH) (by rw [r3]; exact hG) r4
      refine ⟨s', av', .more r1 h1, h2, ?_, h4, ?_⟩
      · rw [awF, hst]; exact h3
      · rw [awF, hst]; exact h5
end
end Go.AM.T
/- What the functions compute (own work). -/
namespace Go.AM.T
open Go Go.AM
attribute [local simp] so_mov so_pick so_alloc so_box so_build so_slit so_load so_store so_nilc so_bin so_beq so_eqs so_eqn so_eqnl so_not so_conv so_s2b so_mkfn so_slcA so_padd so_fld so_idxA so_idxV so_idxT so_look so_mupd so_mkmap so_mksl so_ext so_app so_lenT so_lenM so_min so_max so_cpy so_clr so_mkif so_tass so_lenS so_idxS so_slc
attribute [local simp] dn_skip dn_label dn_ret dn_exit dn_scope dn_keep dn_reg dn_draw0 noSlots denE denEI stepE  sd_mov sd_pick sd_build sd_load sd_store sd_nilc sd_bin sd_beq sd_eqs sd_eqn sd_eqnl sd_not sd_conv sd_s2b sd_mkfn sd_slc sd_slcA sd_padd sd_fld sd_idxS sd_idxA sd_idxV sd_idxT sd_look sd_mupd sd_ext sd_app sd_lenS sd_lenT sd_lenM sd_min sd_max sd_mkif sd_tass sd_call sd_slit dn_seq dn_cond dn_block dn_loop kn_call denIs denI denOp wants ev eget putD binL enumFrom AV.bool? AV.int? ekeep evs evp runV fin runDefs resAll resOf tupOf unit AV.cells okV ok1 Value.oneCell' fill setN rcells rs_nil rs_cons load_own load_cons mkAgg_rs storeN jmpOut
attribute [local simp] dvL dv1t dvAt mkAgg2 dv0 dv1 dv2 dv3 dv4 dv5 dv6 dv7 dv8 dv9 dv10 dvA dvN dvAll C_fz fzr
section
variable {d : Div} {a0 a1 n0 n1 p q : RV}
theorem allows_loops (hs : DivS d a0 a1 n0 n1 p q) (hb : Small d) (hr : rightB d = true) (h0 : 0 ≤ d.rule) {vs : List RV} {us : List (List Int)} (hvs : SlT vs us) (hul : ∀ u ∈ us, u.length = d.n.toNat ∧ VOk u) (hcnt : us.length ≤ 10000) {oc : Int} {v5 v6 v7 v8 v10 : AV}
    {P : Nat → Nat → Bool} (hP : P = fun (o : Nat) j => outcomeI d (numsL d (us.getD j [])) == (o : Int)) {V : Nat → RV} (hV : V = fun j => vs.getD j .nil) :
    ∀ (k o : Nat) (al : List Int) (w : RV) (av : AV) (s : St), o + k = 3 → al.length ≤ o → ekeep [1, 2, 5, 6, 7, 8, 10, 11, 12, 13, 14] s.env = [(1, u8 oc), (2, .own 0 0 0), (5, v5), (6, v6), (7, v7), (8, v8), (10, v10), (11, av), (12, .r w), (13, .r (.sl vs us.length none)), (14, i64 o)] →
      s.m.h[0]? = some (.cells (rs (divC d a0 a1 n0 n1 p q)) ty_ref07_Division 0) → GS s.m.h 1 ty_uint8 1 (ints .u8 al) al.length av → s.defs = [] → (∀ x ∈ al, x < o) →
      ∃ s' av' w', Loop C [1, 2, 5, 6, 7, 8, 10, 11, 12, 13, 14] l_law07_TallyAllows_1 s (.exit 0) s' ∧
        GS s'.m.h 1 ty_uint8 1 (ints .u8 (al ++ ((List.range' o k).filter fun o => (List.range us.length).any (P o)).map fun (x : Nat) => (x : Int))) (al ++ ((List.range' o k).filter fun o => (List.range us.length).any (P o)).map fun (x : Nat) => (x : Int)).length av' ∧ s'.defs = [] ∧
        ekeep [5, 6, 7, 8, 10, 11, 12] s'.env = [(5, v5), (6, v6), (7, v7), (8, v8), (10, v10), (11, av'), (12, .r w')] ∧
        w' = (if (o : Int) ≤ oc ∧ oc < 3 then (pkF ((List.range us.length).find? (P oc.toNat)) V w) else w) := by
  intro k
  induction k with
  | zero =>
    intro o al w av s hk hal he hH hG hd hx
    have ho : o = 3 := by omega
    subst ho
    refine ⟨_, av, w, .stop (.of fun K => by rw [he]; simp [l_law07_TallyAllows_1]; rfl) (by simp), by simpa using hG, by simp [hd], by simp, ?_⟩
    rw [if_neg]; omega
  | succ k ih =>
    intro o al w av s hk hal he hH hG hd hx
    have e0 : ((o : Int) < 3) = True := eq_true (by omega)
    have w1 : IntKind.wrap .i64 ((o : Int) + 1) = o + 1 := by rw [w64] <;> omega
    have w2 : IntKind.wrap .i64 ((us.length : Int) - 1) = (us.length : Int) - 1 := by rw [w64] <;> omega
    obtain ⟨s1, av1, l1, h1, h2, h3, h4⟩ := allows_inner hs hb hr h0 hvs hul (by omega) (oc := oc) (o := o) (by omega) (v5 := v5) (v6 := v6) (v7 := v7) (v8 := v8) (v10 := v10) (P := P o) (by rw [hP]) hV us.length al w av
      { s with env := [(1, u8 oc), (2, .own 0 0 0), (5, v5), (6, v6), (7, v7), (8, v8), (10, v10), (11, av), (12, .r w), (13, .r (.sl vs us.length none)), (14, i64 o), (15, i64 ((us.length : Int) - 1))] } (Nat.le_refl _) (by omega) (by simp) hH hG hd
    obtain ⟨c1, k1⟩ := l1.get
    have hA := awF_1 (o : Int) oc (P o) V us.length (al, w) al (.inl ⟨rfl, fun x hx' => by have := hx x hx'; omega⟩)
    have hW := awF_w (o : Int) oc (P o) V us.length (al, w)
    obtain ⟨al1, hal1⟩ : ∃ al1, al1 = (awF (o : Int) oc (P o) V us.length (al, w)).1 := ⟨_, rfl⟩
    obtain ⟨w', hw'⟩ : ∃ w', w' = (awF (o : Int) oc (P o) V us.length (al, w)).2 := ⟨_, rfl⟩
    rw [← hal1] at hA h2
    rw [← hw'] at hW h4
    have hne : ¬ (al = al ++ [(o : Int)]) := fun e => by
      have := congrArg List.length e; simp at this
    have hA2 : al1 = if (List.range us.length).any (P o) = true then al ++ [(o : Int)] else al := by
      rw [hA]
      by_cases hb' : (List.range us.length).any (P o) = true
      · rw [if_pos (.inr hb'), if_pos hb']
      · rw [if_neg, if_neg hb']
        rintro (h | h)
        · exact hne h
        · exact hb' h
    have e4 : eget s1.env 1 = u8 oc ∧ eget s1.env 2 = .own 0 0 0 ∧ eget s1.env 5 = v5 ∧ eget s1.env 6 = v6 ∧ eget s1.env 7 = v7 ∧ eget s1.env 8 = v8 ∧ eget s1.env 10 = v10 ∧ eget s1.env 11 = av1 ∧ eget s1.env 12 = .r w' ∧ eget s1.env 13 = .r (.sl vs us.length none) ∧ eget s1.env 14 = i64 o := by simpa [ekeep] using h4
    obtain ⟨f1, f2, f5, f6, f7, f8, f10, f11, f12, f13, f14⟩ := e4
    have hrd : ∃ s2, Den C l_law07_TallyAllows_1 { s with env := ekeep [1, 2, 5, 6, 7, 8, 10, 11, 12, 13, 14] s.env } .norm s2 ∧ ekeep [1, 2, 5, 6, 7, 8, 10, 11, 12, 13, 14] s2.env = [(1, u8 oc), (2, .own 0 0 0), (5, v5), (6, v6), (7, v7), (8, v8), (10, v10), (11, av1), (12, .r w'), (13, .r (.sl vs us.length none)), (14, i64 (o + 1 : Nat))] ∧ s2.m = s1.m ∧ s2.defs = [] :=
      ⟨_, .ofN ⟨c1, fun j hj => by
        have k1 := k1 j hj
        rw [he]
        simp [l_law07_TallyAllows_1, e0, w1, w2, lenOf, k1, f1, f2, f5, f6, f7, f8, f10, f11, f12, f13, f14]
        rfl⟩, by simp, by simp, by simp [h3]⟩
    obtain ⟨s2, r1, r2, r3, r4⟩ := hrd
    obtain ⟨s', av', w'', g1, g2, g3, g4, g5⟩ := ih (o + 1) al1 w' av1 s2 (by omega) (by rw [hA2]; split <;> (try rw [List.length_append, List.length_singleton]) <;> omega) r2 (by rw [r3]; exact h1) (by rw [r3]; exact h2) r4 (by
      intro x hx'
      rw [hA2] at hx'
      split at hx'
      · rcases List.mem_append.1 hx' with h | h
        · have := hx x h; omega
        · simp at h; omega
      · have := hx x hx'; omega)
    refine ⟨s', av', w'', .more r1 g1, ?_, g3, g4, ?_⟩
    · have : al1 ++ ((List.range' (o + 1) k).filter fun o => (List.range us.length).any (P o)).map (fun (x : Nat) => (x : Int)) = al ++ ((List.range' o (k + 1)).filter fun o => (List.range us.length).any (P o)).map fun (x : Nat) => (x : Int) := by
        rw [hA2, List.range'_succ, List.filter_cons]
        split
        · simp
        · rfl
      rw [← this]; exact g2
    · rw [g5, hW]
      by_cases e1 : (o : Int) = oc
      · have e2 : oc.toNat = o := by omega
        rw [if_neg (by omega), if_pos (by omega), e2]
        unfold pkF
        simp only [if_pos e1]
      · have e3 : pkF ((List.range us.length).find? (P o)) (fun j => if (o : Int) = oc then V j else (al, w).2) (al, w).2 = w := by
          unfold pkF
          split
          · simp [e1]
          · rfl
        rw [e3]
        by_cases e2 : (o : Int) ≤ oc ∧ oc < 3
        · rw [if_pos e2, if_pos (by omega)]
        · rw [if_neg e2, if_neg (by omega)]
end
end Go.AM.T
/- What the functions compute (own work). -/
namespace Go.AM.T
open Go Go.AM
attribute [local simp] so_mov so_pick so_alloc so_box so_build so_slit so_load so_store so_nilc so_bin so_beq so_eqs so_eqn so_eqnl so_not so_conv so_s2b so_mkfn so_slcA so_padd so_fld so_idxA so_idxV so_idxT so_look so_mupd so_mkmap so_mksl so_ext so_app so_lenT so_lenM so_min so_max so_cpy so_clr so_mkif so_tass so_lenS so_idxS so_slc
attribute [local simp] dn_skip dn_label dn_ret dn_exit dn_scope dn_keep dn_reg dn_draw0 noSlots denE denEI stepE  sd_mov sd_pick sd_build sd_load sd_store sd_nilc sd_bin sd_beq sd_eqs sd_eqn sd_eqnl sd_not sd_conv sd_s2b sd_mkfn sd_slc sd_slcA sd_padd sd_fld sd_idxS sd_idxA sd_idxV sd_idxT sd_look sd_mupd sd_ext sd_app sd_lenS sd_lenT sd_lenM sd_min sd_max sd_mkif sd_tass sd_call sd_slit dn_seq dn_cond dn_block dn_loop kn_call denIs denI denOp wants ev eget putD binL enumFrom AV.bool? AV.int? ekeep evs evp runV fin runDefs resAll resOf tupOf unit AV.cells okV ok1 Value.oneCell' fill setN rcells rs_nil rs_cons load_own load_cons mkAgg_rs storeN jmpOut
attribute [local simp] dvL dv1t dvAt mkAgg2 dv0 dv1 dv2 dv3 dv4 dv5 dv6 dv7 dv8 dv9 dv10 dvA dvN dvAll C_fz fzr
theorem votesA_spec {l k : List Int} {v w : AV} {m : Mem} (hl : Arr .u8 m.h v l) (hk : Arr .u8 m.h w k) (hb : l.length < 2 ^ 63) : CallR C (fnv fn_law07_votes) [v, w] m (.ret (bo (decide (l = k))) m) := by
  by_cases e : l.length = k.length
  case neg =>
    have e1 : ((l.length : Int) == (k.length : Int)) = false := by simpa using fun h : (l.length : Int) = k.length => e (by omega)
    rw [decide_eq_false (fun h => e (by rw [h]))]
    have e2 : ((l.length : Int) = (k.length : Int)) = False := eq_false (by omega)
    exact CallR.eval0 rfl rfl prog_law07_votes rfl ⟨0, fun n hn => by simp [a_law07_votes, hl.len, hk.len, e1, e2]⟩
  have key := Loop.run (C := C) (c := l_law07_votes_0) (live := [0, 1, 5]) (fun r s => ∃ i : Nat, i + r = l.length ∧ At1 [0, 1, 5] [(0, v), (1, w), (5, i64 i)] { h := m.h } s ∧ ∀ j (h : j < i) (h1 : j < l.length) (h2 : j < k.length), l[j] = k[j])
    (fun o s => s.m = { h := m.h } ∧ s.defs = [] ∧ ((o = .ret ∧ eget s.env 4 = bo false ∧ l ≠ k) ∨ (o = .exit 0 ∧ l = k))) (by
    rintro r s ⟨i, hik, ⟨he, hm, hd, hr⟩, hx⟩
    rw [he]
    cases r with
    | zero =>
      have hi : i = l.length := by omega
      subst hi
      exact ⟨.exit 0, _, .of fun K => by simp [l_law07_votes_0, hl.len]; rfl, .inr ⟨by simp, by simp [hm], by simp [hd], .inr ⟨rfl, List.ext_getElem e fun j h1 h2 => hx j h1 h1 h2⟩⟩⟩
    | succ r =>
      have hi : i < l.length := by omega
      have hi2 : i < k.length := by omega
      have e1 : ((i : Int) < (l.length : Int)) = True := eq_true (by omega)
      have w1 : IntKind.wrap .i64 ((i : Int) + 1) = i + 1 := by rw [w64] <;> omega
      obtain ⟨x, hx1, hx2⟩ := hl.el i hi
      obtain ⟨y, hy1, hy2⟩ := hk.el i hi2
      have hx2 := hx2 []
      have hy2 := hy2 []
      rw [getD_get hi] at hx2
      rw [getD_get hi2] at hy2
      by_cases hq : l[i] = k[i]
      · have hq' : (l[i] == k[i]) = true := by simpa using hq
        exact ⟨.norm, _, .of fun K => by simp [l_law07_votes_0, hl.len, e1, hx1, hy1, hm, hx2, hy2, hq', hq, w1]; rfl, .inl ⟨rfl, r, by omega, i + 1, by omega, ⟨by simp, by simp [hm], by simp [hd], by simp [hr]⟩, fun j hj h1 h2 => by
          by_cases ej : j = i
          · subst ej; exact hq
          · exact hx j (by omega) h1 h2⟩⟩
      · have hq' : (l[i] == k[i]) = false := by simpa using hq
        exact ⟨.ret, _, .of fun K => by simp [l_law07_votes_0, hl.len, e1, hx1, hy1, hm, hx2, hy2, hq', hq]; rfl, .inr ⟨by simp, by simp [hm], by simp [hd], .inl ⟨rfl, by simp, fun h => hq (by subst h; rfl)⟩⟩⟩)
  obtain ⟨o, s, h1, h2, h3, h4, h5⟩ := key l.length { env := [(5, i64 0), (0, v), (1, w), (10, bo false)], m := { h := m.h } } ⟨0, by simp, ⟨by simp, rfl, rfl, rfl⟩, fun j h => by omega⟩
  obtain ⟨c0, h1⟩ := h1.get
  rcases h5 with ⟨rfl, h5, h6⟩ | ⟨rfl, h6⟩
  · rw [decide_eq_false h6]
    exact CallR.eval0 rfl rfl prog_law07_votes rfl ⟨c0, fun n hn => by simp [a_law07_votes, hl.len, hk.len, e, h1 n hn, h4, h5, h3]⟩
  · rw [decide_eq_true h6]
    exact CallR.eval0 rfl rfl prog_law07_votes rfl ⟨c0, fun n hn => by simp [a_law07_votes, hl.len, hk.len, e, h1 n hn, h4, h3]⟩
theorem find_range {α : Type} (l : List α) (x0 : α) (p : α → Bool) : l.find? p = ((List.range l.length).find? fun j => p (l.getD j x0)).map fun j => l.getD j x0 := by
  induction l with
  | nil => rfl
  | cons x l ih =>
    rw [List.find?_cons, List.length_cons, List.range_succ_eq_map, List.find?_cons]
    have h0 : (x :: l).getD 0 x0 = x := rfl
    rw [h0]
    cases hp : p x with
    | true => rfl
    | false =>
      rw [ih, List.find?_map]
      have : ((fun j => p ((x :: l).getD j x0)) ∘ Nat.succ) = fun j => p (l.getD j x0) := by funext j; rfl
      rw [this, Option.map_map]
      rfl
theorem any_range {α : Type} (l : List α) (x0 : α) (p : α → Bool) : ((List.range l.length).any fun j => p (l.getD j x0)) = l.any p := by
  have h := find_range l x0 p
  have e1 : (l.find? p).isSome = l.any p := by rw [Bool.eq_iff_iff, List.find?_isSome, List.any_eq_true]
  have e2 : ((List.range l.length).find? fun j => p (l.getD j x0)).isSome = (List.range l.length).any fun j => p (l.getD j x0) := by rw [Bool.eq_iff_iff, List.find?_isSome, List.any_eq_true]
  rw [← e1, ← e2, h]; simp
theorem alL_rt {d : Div} (h : d.n ≤ 40) (o : Int) : (alL d).contains o = (rtOf d).any fun u => outcomeI d (numsL d u) == o := by
  rw [Bool.eq_iff_iff, List.any_eq_true]
  rw [List.contains_iff_mem, alL_mem, truthsOf_rt h]
  constructor
  · rintro ⟨t, ht, e⟩
    obtain ⟨u, hu, rfl⟩ := List.mem_map.1 ht
    exact ⟨u, hu, by rw [nums_pad] at e; simp [e]⟩
  · rintro ⟨u, hu, e⟩
    exact ⟨pad u, List.mem_map.2 ⟨u, hu, rfl⟩, by rw [nums_pad]; simpa using e⟩
theorem openI_1 (d : Div) : openI d = 1 ↔ rightB d = false := by
  unfold openI faultI
  cases rightB d with
  | false => simp
  | true =>
    cases (clashB d).isSome with
    | true => simp
    | false => by_cases h : 8 < (doubtsL d).length <;> simp [h]
section
variable {d : Div} {a0 a1 n0 n1 p q : RV}
theorem TallyAllows_spec (hs : DivS d a0 a1 n0 n1 p q) (hb : Small d) (hru : 0 ≤ d.rule ∧ d.rule ≤ 255) {oc : Int} (hoc : 0 ≤ oc ∧ oc ≤ 255) : CallR C (fnv fn_law07_TallyAllows) [.r (.agg (divC d a0 a1 n0 n1 p q)), u8 oc] { h := [] } (.ret (bo true) { h := [] }) := by
  have hd11 : (divC d a0 a1 n0 n1 p q).length = 11 := rfl
  obtain ⟨H, hH⟩ : ∃ H : List Blk, H = [.cells (rs (divC d a0 a1 n0 n1 p q)) ty_ref07_Division 0] := ⟨_, rfl⟩
  obtain ⟨c1, k1⟩ := lawsmall_spec hs hb { h := H }
  obtain ⟨c2, k2⟩ := wakes_spec { h := H }
  obtain ⟨c3, k3⟩ := lawopen_spec hs hb { h := H }
  obtain ⟨D, hD⟩ : ∃ D, D = divC d a0 a1 n0 n1 p q := ⟨_, rfl⟩
  have g0 : H[0]? = some (.cells (rs (divC d a0 a1 n0 n1 p q)) ty_ref07_Division 0) := by rw [hH]; rfl
  cases es : smallB d with
  | false =>
    rw [es] at k1
    rw [← hD] at k1 hH g0 hd11 ⊢
    have hDt : List.take 11 (rs D) = rs D := List.take_of_length_le (by rw [rs_len]; omega)
    exact CallR.eval (m1 := { h := H }) rfl rfl prog_law07_TallyAllows rfl ⟨c1 + c2, fun k hk => by simp [a_law07_TallyAllows, rs_len, hd11, hDt, ← hH, g0, k1 k (by omega), k2 k (by omega)]⟩ (by simp) (by simp)
  | true =>
  rw [es] at k1
  have hfew := small_few es
  obtain ⟨c4, k4⟩ := lawDivision_spec hs hfew { h := H }
  obtain ⟨c5, k5⟩ := Allowed_spec (copyS d) hb hru { h := H }
  obtain ⟨c6, k6⟩ := Witness_spec (copyS d) hb hru oc { h := H }
  rw [show divC d (listV d.a0) (listV d.a1) (listV d.n0) (listV d.n1) (pairV d.pairs) (pairV d.proxies) = copyC d from rfl] at k5 k6
  obtain ⟨X, hX⟩ : ∃ X, X = copyC d := ⟨_, rfl⟩
  rw [← hX] at k4 k5 k6
  -- what is asked
  have hask : askI d oc = if 2 < oc ∧ openI d ≠ 1 then 2 else openI d := by
    unfold askI
    cases hr : rightB d with
    | false =>
      have := (openI_1 d).2 hr
      rw [this]; simp
    | true =>
      have : openI d ≠ 1 := fun h => by have := (openI_1 d).1 h; rw [hr] at this; cases this
      simp [this]
  by_cases ho : openI d = 0
  · rw [ho] at k3 k5
    rw [if_pos rfl] at k5
    obtain ⟨hr, hcl, hdb⟩ := openI0 ho
    have hn := right_n hr
    have hcnt := rtOf_count hdb
    obtain ⟨vs, ⟨c7, k7⟩, hvs⟩ := refTruths_spec hs hb ho { h := H }
    obtain ⟨P, hP⟩ : ∃ P : Nat → Nat → Bool, P = fun (o : Nat) j => outcomeI d (numsL d ((rtOf d).getD j [])) == (o : Int) := ⟨_, rfl⟩
    obtain ⟨V, hV⟩ : ∃ V : Nat → RV, V = fun j => vs.getD j .nil := ⟨_, rfl⟩
    obtain ⟨v5, hv5⟩ : ∃ v5 : RV, v5 = .sl (ints .u8 (alS d)) (alS d).length none := ⟨_, rfl⟩
    obtain ⟨A, hA⟩ : ∃ A, A = askI d oc := ⟨_, rfl⟩
    obtain ⟨v7, hv7⟩ : ∃ v7, v7 = witR d oc := ⟨_, rfl⟩
    obtain ⟨v8, hv8⟩ : ∃ v8, v8 = witE d oc := ⟨_, rfl⟩
    rw [← hv5] at k5
    rw [← hv7, ← hv8] at k6
    obtain ⟨s', av', w', l1, hG, hdf, he', hw'⟩ := allows_loops hs hb hr hru.1 hvs rt_ok (by omega) (oc := oc) (v5 := .r v5) (v6 := i64 0) (v7 := .r v7) (v8 := i64 v8) (v10 := i64 A) hP hV 3 0 [] .nil (.r .nil)
      { env := [(14, i64 0), (1, u8 oc), (2, .own 0 0 0), (5, .r v5), (6, i64 0), (7, .r v7), (8, i64 v8), (10, i64 A), (11, .r .nil), (12, .r .nil), (13, .r (.sl vs (rtOf d).length none))], m := { h := H } } rfl (by simp) (by simp) g0 (.nil rfl rfl) rfl (by simp)
    obtain ⟨c8, k8⟩ := l1.get
    -- the outcomes
    have hal : ([] ++ ((List.range' 0 3).filter fun o => (List.range (rtOf d).length).any (P o)).map fun (x : Nat) => (x : Int)) = alS d := by
      have hc : ∀ o : Nat, (List.range (rtOf d).length).any (P o) = (alL d).contains (o : Int) := fun o => by
        rw [alL_rt hn.2, hP]
        exact any_range (rtOf d) [] fun u => outcomeI d (numsL d u) == (o : Int)
      unfold alS
      rw [show List.range' 0 3 = [0, 1, 2] from rfl]
      simp only [List.filter_cons, List.filter_nil, hc, List.nil_append, Int.natCast_zero, Int.natCast_one]
      rw [show ((2 : Nat) : Int) = 2 from rfl]
      cases (alL d).contains 0 <;> cases (alL d).contains 1 <;> cases (alL d).contains 2 <;> rfl
    rw [hal] at hG
    have e8 : eget s'.env 5 = .r v5 ∧ eget s'.env 6 = i64 0 ∧ eget s'.env 7 = .r v7 ∧ eget s'.env 8 = i64 v8 ∧ eget s'.env 10 = i64 A ∧ eget s'.env 11 = av' ∧ eget s'.env 12 = .r w' := by simpa [ekeep] using he'
    obtain ⟨f5, f6, f7, f8, f10, f11, f12⟩ := e8
    obtain ⟨M, hM⟩ : ∃ M, M = s'.m := ⟨_, rfl⟩
    rw [← hM] at hG
    obtain ⟨c9, k9⟩ := votesA_spec (m := M) (l := alS d) (k := alS d) (v := .r v5) (Arr.ofSl (by rw [hv5]; exact Sl.mk _ _ _)) (Arr.ofGS hG) (by have := alS_len (d := d); have := (alL_ok d).le; omega)
    rw [decide_eq_true rfl] at k9
    obtain ⟨c10, k10⟩ := wakes_spec M
    rw [← hD] at k1 k3 k4 k7 hH g0 hd11 ⊢
    have hDt : List.take 11 (rs D) = rs D := List.take_of_length_le (by rw [rs_len]; omega)
    by_cases h2 : 2 < oc
    · have hA2 : A = 2 := by rw [hA, hask, ho]; simp [h2]
      have hw8 : v8 = 2 := by rw [hv8]; unfold witE; rw [← hA, hA2]; rfl
      have hw7 : v7 = .nil := by rw [hv7]; unfold witR; rw [← hA, hA2]; rfl
      subst hw8 hw7 hA2
      have h2' : (2 < oc) = True := eq_true h2
      refine CallR.eval (m1 := M) rfl rfl prog_law07_TallyAllows rfl ⟨c1 + c2 + c3 + c4 + c5 + c6 + c7 + c8 + c9 + c10, fun k hk => ?_⟩ (by simp) (by simp)
      have k8 := k8 k (by omega)
      simp [a_law07_TallyAllows, rs_len, hd11, hDt, ← hH, g0, k1 k (by omega), k4 k (by omega), k5 k (by omega), k6 k (by omega), k3 k (by omega), h2', lenOf, k7 k (by omega), k8, ← hM, f5, f6, f7, f8, f10, f11, f12, k9 k (by omega), k10 k (by omega), hdf]
    · have hA0 : A = 0 := by rw [hA, hask, ho]; simp [h2]
      have h2' : (2 < oc) = False := eq_false h2
      rw [if_pos (by omega)] at hw'
      have hfind := find_range (rtOf d) [] fun u => outcomeI d (numsL d u) == oc
      have hPo : (fun j => (fun u => outcomeI d (numsL d u) == oc) ((rtOf d).getD j [])) = P oc.toNat := by
        rw [hP]; funext j
        have : ((oc.toNat : Nat) : Int) = oc := by omega
        simp only [this]
      rw [hPo] at hfind
      have hfind : wiF d oc = ((List.range (rtOf d).length).find? (P oc.toNat)).map fun j => (rtOf d).getD j [] := hfind
      cases hF : (List.range (rtOf d).length).find? (P oc.toNat) with
      | none =>
        rw [hF] at hfind hw'
        have hw8 : v8 = 7 := by rw [hv8]; unfold witE; rw [← hA, hA0, hfind]; rfl
        have hw7 : v7 = .nil := by rw [hv7]; unfold witR; rw [← hA, hA0, hfind]; rfl
        have hw0 : w' = .nil := hw'
        subst hw8 hw7 hA0 hw0
        refine CallR.eval (m1 := M) rfl rfl prog_law07_TallyAllows rfl ⟨c1 + c2 + c3 + c4 + c5 + c6 + c7 + c8 + c9 + c10, fun k hk => ?_⟩ (by simp) (by simp)
        have k8 := k8 k (by omega)
        simp [a_law07_TallyAllows, rs_len, hd11, hDt, ← hH, g0, k1 k (by omega), k4 k (by omega), k5 k (by omega), k6 k (by omega), k3 k (by omega), h2', lenOf, k7 k (by omega), k8, ← hM, f5, f6, f7, f8, f10, f11, f12, k9 k (by omega), k10 k (by omega), hdf]
      | some j =>
        rw [hF] at hfind hw'
        have hj : j < (rtOf d).length := by simpa using List.mem_of_find?_eq_some hF
        obtain ⟨u, hu⟩ : ∃ u, u = (rtOf d).getD j [] := ⟨_, rfl⟩
        have huj : (rtOf d)[j]? = some u := by rw [hu]; simp [hj]
        have hum := rt_ok (d := d) u (List.mem_of_getElem? huj)
        obtain ⟨x, hx1, hx2⟩ := hvs.getR huj
        have hfind : wiF d oc = some u := by rw [hu]; exact hfind
        have hw8 : v8 = 0 := by rw [hv8]; unfold witE; rw [← hA, hA0, hfind]; rfl
        have hw7 : v7 = .sl (ints .u8 u) u.length none := by rw [hv7]; unfold witR; rw [← hA, hA0, hfind]; rfl
        have hw0 : w' = x := by rw [hw']; show V j = x; rw [hV]; simp [hx1]
        obtain ⟨c11, k11⟩ := votesA_spec (m := M) (l := u) (k := u) (v := .r v7) (w := .r x) (Arr.ofSl (by rw [hw7]; exact Sl.mk _ _ _)) (Arr.ofSl hx2) (by omega)
        rw [decide_eq_true rfl] at k11
        have hxl : lenOf (.r x) = some u.length := hx2.len
        have hu0 : ((u.length : Int) == 0) = false := by simp; intro h; rw [h] at hum; simp at hum; omega
        have hune : u ≠ [] := by intro h; rw [h] at hum; simp at hum; omega
        subst hw8 hA0 hw0
        refine CallR.eval (m1 := M) rfl rfl prog_law07_TallyAllows rfl ⟨c1 + c2 + c3 + c4 + c5 + c6 + c7 + c8 + c9 + c10 + c11, fun k hk => ?_⟩ (by simp) (by simp)
        have k8 := k8 k (by omega)
        simp [a_law07_TallyAllows, rs_len, hd11, hDt, ← hH, g0, k1 k (by omega), k4 k (by omega), k5 k (by omega), k6 k (by omega), k3 k (by omega), h2', k7 k (by omega), k8, ← hM, f5, f6, f7, f8, f10, f11, f12, k9 k (by omega), k10 k (by omega), hdf, hxl, hu0, hune, k11 k (by omega)]
  · rw [if_neg ho] at k5
    obtain ⟨z, hz⟩ : ∃ z, z = openI d := ⟨_, rfl⟩
    have hAn : askI d oc ≠ 0 := by
      rw [hask]; split
      · decide
      · exact ho
    have hw8 : witE d oc = askI d oc := by unfold witE; rw [if_neg hAn]
    have hw7 : witR d oc = .nil := by unfold witR; rw [if_neg hAn]
    rw [hw8, hw7] at k6
    rw [hask] at k6
    rw [← hz] at k3 k5 k6 ho
    have z0 : (z == 0) = false := by simpa using ho
    have z0' : (z != 0) = true := by simpa using ho
    rw [← hD] at k1 k3 k4 hH g0 hd11 ⊢
    have hDt : List.take 11 (rs D) = rs D := List.take_of_length_le (by rw [rs_len]; omega)
    refine CallR.eval (m1 := { h := H }) rfl rfl prog_law07_TallyAllows rfl ⟨c1 + c2 + c3 + c4 + c5 + c6, fun k hk => ?_⟩ (by simp) (by simp)
    have k6 := k6 k (by omega)
    by_cases h2 : 2 < oc
    · have h2' : (2 < oc) = True := eq_true h2
      by_cases h1 : z = 1
      · subst h1
        simp at k6
        simp [a_law07_TallyAllows, rs_len, hd11, hDt, ← hH, g0, k1 k (by omega), k4 k (by omega), k5 k (by omega), k6, k3 k (by omega), h2', lenOf, k2 k (by omega)]
      · have h1' : (z == 1) = false := by simpa using h1
        have h1'' : (z != 1) = true := by simpa using h1
        simp [h2', h1] at k6
        simp [a_law07_TallyAllows, rs_len, hd11, hDt, ← hH, g0, k1 k (by omega), k4 k (by omega), k5 k (by omega), k6, k3 k (by omega), h2', h1, h1', h1'', z0, z0', ho, lenOf, k2 k (by omega)]
    · have h2' : (2 < oc) = False := eq_false h2
      simp [h2'] at k6
      simp [a_law07_TallyAllows, rs_len, hd11, hDt, ← hH, g0, k1 k (by omega), k4 k (by omega), k5 k (by omega), k6, k3 k (by omega), h2', z0, z0', ho, lenOf, k2 k (by omega)]
end
end Go.AM.T
/- What the functions compute (own work). -/
namespace Go.AM.T
open Go Go.AM
attribute [local simp] so_mov so_pick so_alloc so_box so_build so_slit so_load so_store so_nilc so_bin so_beq so_eqs so_eqn so_eqnl so_not so_conv so_s2b so_mkfn so_slcA so_padd so_fld so_idxA so_idxV so_idxT so_look so_mupd so_mkmap so_mksl so_ext so_app so_lenT so_lenM so_min so_max so_cpy so_clr so_mkif so_tass so_lenS so_idxS so_slc
attribute [local simp] dn_skip dn_label dn_ret dn_exit dn_scope dn_keep dn_reg dn_draw0 noSlots denE denEI stepE  sd_mov sd_pick sd_build sd_load sd_store sd_nilc sd_bin sd_beq sd_eqs sd_eqn sd_eqnl sd_not sd_conv sd_s2b sd_mkfn sd_slc sd_slcA sd_padd sd_fld sd_idxS sd_idxA sd_idxV sd_idxT sd_look sd_mupd sd_ext sd_app sd_lenS sd_lenT sd_lenM sd_min sd_max sd_mkif sd_tass sd_call sd_slit dn_seq dn_cond dn_block dn_loop kn_call denIs denI denOp wants ev eget putD binL enumFrom AV.bool? AV.int? ekeep evs evp runV fin runDefs resAll resOf tupOf unit AV.cells okV ok1 Value.oneCell' fill setN rcells rs_nil rs_cons load_own load_cons mkAgg_rs storeN jmpOut
attribute [local simp] dvL dv1t dvAt mkAgg2 dv0 dv1 dv2 dv3 dv4 dv5 dv6 dv7 dv8 dv9 dv10 dvA dvN dvAll C_fz fzr
theorem has_u8 {x : RV} (h : Has (.int .u8) [x]) : ∃ n, x = .lit (.int .u8 n) ∧ (0 ≤ n ∧ n ≤ 255) := by
  obtain ⟨n, e, w⟩ := has_int h
  cases e
  have e1 : IntKind.min .u8 = 0 := by decide
  have e2 : IntKind.max .u8 = 255 := by decide
  exact ⟨n, rfl, by simpa [Lit.wf, e1, e2] using w⟩
theorem has_u32 {x : RV} (h : Has (.int .u32) [x]) : ∃ n, x = .lit (.int .u32 n) ∧ (0 ≤ n ∧ n ≤ 4294967295) := by
  obtain ⟨n, e, w⟩ := has_int h
  cases e
  have e1 : IntKind.min .u32 = 0 := by decide
  have e2 : IntKind.max .u32 = 4294967295 := by decide
  exact ⟨n, rfl, by simpa [Lit.wf, e1, e2] using w⟩
theorem has_bool {x : RV} (h : Has .bool [x]) : ∃ b, x = .lit (.bool b) := by
  simp only [Has] at h
  obtain ⟨b, e⟩ := h
  cases e
  exact ⟨b, rfl⟩
theorem has_Sint {x : RV} (h : Has (.sl (.int .i64)) [x]) : ∃ l, SlI l x ∧ l.length < 2 ^ 63 := by
  obtain ⟨v, l, e, s, hl⟩ := has_ints h
  cases e
  exact ⟨l, s, hl⟩
theorem parts_u8 : ∀ (n : Nat) (xs : List RV), Parts (Has (.int .u8)) n xs → ∃ l : List Int, xs = ints .u8 l ∧ l.length = n ∧ ∀ x ∈ l, 0 ≤ x ∧ x ≤ 255
  | 0, xs, h => ⟨[], by simp only [Parts] at h; rw [h]; rfl, rfl, by simp⟩
  | n + 1, xs, h => by
    obtain ⟨a, b, rfl, ⟨x, rfl, w⟩, h2⟩ := h
    obtain ⟨l, rfl, e, hl⟩ := parts_u8 n b h2
    have e1 : IntKind.min .u8 = 0 := by decide
    have e2 : IntKind.max .u8 = 255 := by decide
    refine ⟨x :: l, rfl, by simp [e], fun y hy => ?_⟩
    rcases List.mem_cons.1 hy with rfl | hy
    · simpa [Lit.wf, e1, e2] using w
    · exact hl y hy
theorem has_Su8 {x : RV} (h : Has (.sl (.int .u8)) [x]) : ∃ l, (Sl (ints .u8 l) l.length x ∧ ∀ y ∈ l, 0 ≤ y ∧ y ≤ 255) ∧ l.length < 2 ^ 63 := by
  unfold Has at h
  rcases h with e | ⟨cs, len, e, hm, h⟩
  · cases e
    exact ⟨[], ⟨Sl.nil, by simp⟩, by simp⟩
  · cases e
    obtain ⟨l, rfl, rfl, hl⟩ := parts_u8 _ _ h
    exact ⟨l, ⟨Sl.mk _ _ _, hl⟩, by have := maxLt; omega⟩
end Go.AM.T
