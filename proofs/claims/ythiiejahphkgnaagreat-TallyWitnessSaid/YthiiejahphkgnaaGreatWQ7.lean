/- The machine that the proofs walk by, and what the functions compute: part 7 of the common texts. No condition. (Own work.) -/
import Derived.Test.YthiiejahphkgnaaGreatWQ6
set_option linter.unusedVariables false
set_option linter.unusedSimpArgs false
/- What the functions compute (own work). -/
namespace Go.AM.T
open Go Go.AM
attribute [local simp] so_mov so_pick so_alloc so_box so_build so_slit so_load so_store so_nilc so_bin so_beq so_eqs so_eqn so_eqnl so_not so_conv so_s2b so_mkfn so_slcA so_padd so_fld so_idxA so_idxV so_idxT so_look so_mupd so_mkmap so_mksl so_ext so_app so_lenT so_lenM so_min so_max so_cpy so_clr so_mkif so_tass so_lenS so_idxS so_slc
attribute [local simp] dn_skip dn_label dn_ret dn_exit dn_scope dn_keep dn_reg dn_draw0 noSlots denE denEI stepE  sd_mov sd_pick sd_build sd_load sd_store sd_nilc sd_bin sd_beq sd_eqs sd_eqn sd_eqnl sd_not sd_conv sd_s2b sd_mkfn sd_slc sd_slcA sd_padd sd_fld sd_idxS sd_idxA sd_idxV sd_idxT sd_look sd_mupd sd_ext sd_app sd_lenS sd_lenT sd_lenM sd_min sd_max sd_mkif sd_tass sd_call sd_slit dn_seq dn_cond dn_block dn_loop kn_call denIs denI denOp wants ev eget putD binL enumFrom AV.bool? AV.int? ekeep evs evp runV fin runDefs resAll resOf tupOf unit AV.cells okV ok1 Value.oneCell' fill setN rcells rs_nil rs_cons load_own load_cons mkAgg_rs storeN jmpOut
attribute [local simp] dvL dv1t dvAt mkAgg2 dv0 dv1 dv2 dv3 dv4 dv5 dv6 dv7 dv8 dv9 dv10 dvA dvN dvAll C_fz fzr
section
variable {d : Div} {ms : List Int} {v : AV}
theorem decide_spec (hms : ∀ x ∈ ms, 0 ≤ x ∧ x < 40) (hn : ms.length < 2 ^ 62) (hd40 : d.n ≤ 40) (e : openI d = 0) (m : Mem) (hA : ∀ H' : List Blk, H'.take m.h.length = m.h → Arr .i64 H' v ms) : CallR C (fnv fn_tally_decide) [.r (allV d), v] m (.ret (bo (decB d ms)) m) := by
  have hcnt := truthsOf_count e
  have hts := truthsOf_len hd40
  obtain ⟨s, l1, h2, h3, h4, h5⟩ := dec_outer (d := d) hms hn hts (by omega) (M0 := m.h) hA (hA m.h (by simp)).len none (truthsOf d).length 0 [] { env := [(17, i64 0), (16, i64 (truthsOf d).length), (15, .r (allV d)), (6, bo true), (0, .r (allV d)), (1, v), (5, .omap m.h.length)], m := { h := m.h ++ [.map []] } } (by omega) (by simp) (by simp [allV]) (by rw [List.take_of_length_le (by simp)]; rfl) (by simp) rfl
  obtain ⟨c1, k1⟩ := l1.get
  rw [List.drop_zero, show decF [] (ansO d ms (truthsOf d)) = decB d ms from rfl] at h2
  have hl : lenOf (.r (allV d)) = some (truthsOf d).length := rfl
  obtain ⟨V, hV⟩ : ∃ V, V = allV d := ⟨_, rfl⟩
  rw [← hV] at k1 hl ⊢
  exact CallR.eval (m1 := s.m) rfl rfl prog_tally_decide rfl ⟨c1, fun k hk => by simp [a_tally_decide, hl, k1 k hk, h2, h5]⟩ h3 h4
/-- A copy of a list of numbers. -/
theorem CloneI_spec {l : List Int} {v : AV} {m : Mem} (hl : l.length < 900000) (hv : v = .r .nil ∧ l = [] ∨ (∃ B g T cap, v = .osl B g 0 l.length 1 cap ∧ m.h[B]? = some (.cells (rs (ints .i64 l)) T g) ∧ 0 < l.length)) :
    CallR C (fnv fn_slices_Clone_Sint_int) [v] m (.ret (.r (slI l)) m) := by
  rcases hv with ⟨rfl, rfl⟩ | ⟨B, g, T, cap, rfl, hB, hpos⟩
  · exact CallR.eval0 rfl rfl prog_slices_Clone_Sint_int rfl ⟨0, fun k _ => by simp [a_slices_Clone_Sint_int, slI, gsV]⟩
  · have hsl : ∀ W, slCells { h := m.h, wr := W } (.osl B g 0 l.length 1 cap) 1 = some (rs (ints .i64 l), l.length) := fun W => by
      simp only [slCells, rcells, hB, if_true]
      rw [if_pos ⟨trivial, by rw [rs_len, ints_len]; omega⟩, List.drop_zero, List.take_of_length_le (by rw [rs_len, ints_len]; omega)]
    have happ : ∀ W, appendA { h := m.h, wr := W } ty_int 1 8 (.r (.sl [] 0 (some 0))) (.osl B g 0 l.length 1 cap) = some (.osl m.h.length 0 0 l.length 1 none, { h := m.h ++ [.cells (rs (ints .i64 l)) ty_int 0], wr := W }) := fun W => by
      unfold appendA
      rw [hsl]
      simp only
      rw [if_neg (by omega), if_pos ⟨by omega, rfl, by simp [roomOk]; omega⟩]
      simp [rs]
    have hz : ∀ W, fz { h := m.h ++ [.cells (rs (ints .i64 l)) ty_int 0], wr := W } m.h.length 1000000 (.osl m.h.length 0 0 l.length 1 none) = some (.r (.sl (ints .i64 l) l.length none)) := fun W => fz_osl (t := ty_int) (g := 0) (by simp) (Nat.le_refl _) (by rw [ints_len]; omega) (by rw [ints_len]; omega)
    have hs : slI l = .sl (ints .i64 l) l.length none := by unfold slI gsV; rw [if_neg (by omega)]
    obtain ⟨I, hI⟩ : ∃ I, I = ints .i64 l := ⟨_, rfl⟩
    obtain ⟨n, hn⟩ : ∃ n, n = l.length := ⟨_, rfl⟩
    rw [hs]
    rw [← hI] at happ hz ⊢
    rw [← hn] at happ hz ⊢
    exact CallR.eval (m1 := { h := m.h ++ [.cells (rs I) ty_int 0], wr := [] }) rfl rfl prog_slices_Clone_Sint_int rfl ⟨0, fun k _ => by simp [a_slices_Clone_Sint_int, allR, repl, happ, hz]⟩ (by simp) (by simp)
/-- The function that tries members. -/
def chV (F T D Ch : Nat) : AV := .fn fn_tally_Ask_1 [] [.own F 0 0, .own T 1 0, .own D 1 0, .own Ch 0 0]
/-- A list of members that a heap has. -/
def Now (H : List Blk) (v : AV) (l : List Int) : Prop := v = .r .nil ∧ l = [] ∨ (∃ B g T cap, v = .osl B g 0 l.length 1 cap ∧ H[B]? = some (.cells (rs (ints .i64 l)) T g) ∧ 0 < l.length)
theorem Now.arr {H : List Blk} {v : AV} {l : List Int} (h : Now H v l) : Arr .i64 H v l := by
  rcases h with ⟨rfl, rfl⟩ | ⟨B, g, T, cap, rfl, hB, _⟩
  · exact Arr.ofSl Sl.nil
  · exact Arr.osl hB
theorem Now.keep {H H' : List Blk} {v : AV} {l : List Int} (h : Now H v l) (hk : ∀ (j : Nat) (T : TypeId) (g : Nat), H[j]? = some (Blk.cells (rs (ints .i64 l)) T g) → H'[j]? = some (Blk.cells (rs (ints .i64 l)) T g)) : Now H' v l := by
  rcases h with h | ⟨B, g, T, cap, h1, hB, h2⟩
  · exact .inl h
  · exact .inr ⟨B, g, T, cap, h1, hk _ _ _ hB, h2⟩
theorem choose_leaf {F T D Ch : Nat} {l : List Int} {x : RV} (hl : ∀ y ∈ l, 0 ≤ y ∧ y < 40) (hlen : l.length < 900000) (hd40 : d.n ≤ 40) (e : openI d = 0) {H : List Blk} (hF : H[F]? = some (.cells [.r x] ty_Sint 0)) (hT : H[T]? = some (.cells [.r (allV d)] ty_Stally_told 1)) (hFT : F ≠ T)
    (hnv : Now H v l) (hvF : ∀ j ∈ avIdx v, j ≠ F) (from_ : Int) (W : List Nat) :
    ∃ W', CallR C (chV F T D Ch) [v, i64 from_, i64 0] { h := H, wr := W } (.ret (bo (decB d l)) { h := H.set F (.cells [.r (slI l)] ty_Sint 0), wr := W' }) ∧ ∀ y ∈ W', y ∈ W ∨ y = F := by
  have hFl := getElem?_lt hF
  obtain ⟨c1, k1⟩ := CloneI_spec (m := { h := H }) hlen hnv
  obtain ⟨H2, hH2⟩ : ∃ H2, H2 = H.set F (.cells [.r (slI l)] ty_Sint 0) := ⟨_, rfl⟩
  have hnv2 : Now H2 v l := by
    rcases hnv with h | ⟨B, g, T', cap, h1, hB, h2⟩
    · exact .inl h
    · refine .inr ⟨B, g, T', cap, h1, ?_, h2⟩
      rw [hH2, List.getElem?_set_ne]
      · exact hB
      · intro e; exact hvF B (by rw [h1]; simp [avIdx]) e.symm
  have hT2 : H2[T]? = some (.cells [.r (allV d)] ty_Stally_told 1) := by rw [hH2, List.getElem?_set_ne hFT]; exact hT
  obtain ⟨c2, k2⟩ := decide_spec (v := v) (d := d) hl (by omega) hd40 e { h := H2, wr := [F] } (fun H' hH' => by
    refine (Now.keep hnv2 fun j T' g hj => ?_).arr
    have hH' : H'.take H2.length = H2 := hH'
    rw [take_get hH' (getElem?_lt hj) |>.trans hj])
  have hset : ∃ W', Go.AM.settle C.fz (C.keepAll fn_tally_Ask_1) { h := H, wr := W } (bo (decB d l)) { h := H2, wr := [F] } = (bo (decB d l), { h := H2, wr := W' }) ∧ ∀ y ∈ W', y ∈ W ∨ y = F := by
    have := settle_one (H := H) (W := W) (W1 := [F]) (B := F) (g := 0) (T := ty_Sint) (cs := [slI l]) (v := bo (decB d l)) (v' := bo (decB d l)) hFl (by simp) (fun m => rfl)
    rw [hH2]; exact this
  obtain ⟨W', hs, hw⟩ := hset
  refine ⟨W', CallR.evalW (m1 := { h := H2, wr := [F] }) (v := bo (decB d l)) rfl prog_tally_Ask_1 rfl ⟨c1 + c2, fun k hk => ?_⟩ (by rw [hH2] at hs ⊢; exact hs), hw⟩
  obtain ⟨S, hS⟩ : ∃ S, S = slI l := ⟨_, rfl⟩
  have hok : okV (.r S) = true ∧ AV.cells (.r S) = [.r S] := by
    rw [hS]; unfold slI gsV; split <;> exact ⟨rfl, rfl⟩
  obtain ⟨V, hV⟩ : ∃ V, V = allV d := ⟨_, rfl⟩
  rw [← hS] at k1 hH2
  rw [← hV] at hT2 k2
  have h1 := hok.1
  have h2 := hok.2
  simp only [okV, ok1] at h1
  simp only [AV.cells] at h2
  simp [runK, finK, a_tally_Ask_1, -okV, -ok1, -AV.cells, k1 k (by omega), hok, hF, ← hH2, hT2, k2 k (by omega)]
end
end Go.AM.T
/- What the functions compute (own work). -/
namespace Go.AM.T
open Go Go.AM
attribute [local simp] so_mov so_pick so_alloc so_box so_build so_slit so_load so_store so_nilc so_bin so_beq so_eqs so_eqn so_eqnl so_not so_conv so_s2b so_mkfn so_slcA so_padd so_fld so_idxA so_idxV so_idxT so_look so_mupd so_mkmap so_mksl so_ext so_app so_lenT so_lenM so_min so_max so_cpy so_clr so_mkif so_tass so_lenS so_idxS so_slc
attribute [local simp] dn_skip dn_label dn_ret dn_exit dn_scope dn_keep dn_reg dn_draw0 noSlots denE denEI stepE  sd_mov sd_pick sd_build sd_load sd_store sd_nilc sd_bin sd_beq sd_eqs sd_eqn sd_eqnl sd_not sd_conv sd_s2b sd_mkfn sd_slc sd_slcA sd_padd sd_fld sd_idxS sd_idxA sd_idxV sd_idxT sd_look sd_mupd sd_ext sd_app sd_lenS sd_lenT sd_lenM sd_min sd_max sd_mkif sd_tass sd_call sd_slit dn_seq dn_cond dn_block dn_loop kn_call denIs denI denOp wants ev eget putD binL enumFrom AV.bool? AV.int? ekeep evs evp runV fin runDefs resAll resOf tupOf unit AV.cells okV ok1 Value.oneCell' fill setN rcells rs_nil rs_cons load_own load_cons mkAgg_rs storeN jmpOut
attribute [local simp] dvL dv1t dvAt mkAgg2 dv0 dv1 dv2 dv3 dv4 dv5 dv6 dv7 dv8 dv9 dv10 dvA dvN dvAll C_fz fzr
section
variable {d : Div} {F T D Ch : Nat}
theorem may_nat {d : Div} : ∀ x ∈ doubtsL d, 0 ≤ x ∧ x < d.n := by
  intro x hx
  unfold doubtsL at hx
  obtain ⟨i, hi, rfl⟩ := List.mem_map.1 hx
  have := (List.mem_filter.1 hi).1
  simp at this
  omega
theorem one_loop (hd40 : d.n ≤ 40) (e : openI d = 0) {H : List Blk} (hFl : F < H.length) (hT : H[T]? = some (.cells [.r (allV d)] ty_Stally_told 1)) (hD : H[D]? = some (.cells [.r (slI (doubtsL d))] ty_Sint 1)) (hC : H[Ch]? = some (.cells [chV F T D Ch] ty_func_Sint_int_int_bool 0))
    (hFT : F ≠ T) (hFD : F ≠ D) (hFC : F ≠ Ch) :
    ∀ (k i : Nat) (s : St) (y : RV), i + k = (doubtsL d).length → ekeep [0, 2, 5, 6, 11] s.env = [(0, .r .nil), (2, i64 1), (5, .own D 1 0), (6, .own Ch 0 0), (11, i64 i)] → s.m.h.take H.length = H.set F (.cells [.r y] ty_Sint 0) → (∀ x ∈ s.m.wr, x = F ∨ H.length ≤ x) → s.defs = [] →
      ∃ s' o z, Loop C [0, 2, 5, 6, 11] l_tally_Ask_1_0 s o s' ∧ s'.m.h.take H.length = H.set F (.cells [.r z] ty_Sint 0) ∧ (∀ x ∈ s'.m.wr, x = F ∨ H.length ≤ x) ∧ s'.defs = [] ∧
        ((o = .ret ∧ eget s'.env 10 = bo true ∧ ∃ x, ((doubtsL d).drop i).find? (fun x => decB d [x]) = some x ∧ z = slI [x]) ∨ (o = .exit 0 ∧ ((doubtsL d).drop i).find? (fun x => decB d [x]) = none)) := by
  have hS : SlI (doubtsL d) (slI (doubtsL d)) := Sl.slI _
  have hlen : (doubtsL d).length ≤ 40 := by have := doubtsL_len d; omega
  intro k
  induction k with
  | zero =>
    intro i s y hi he hm hw hd
    obtain ⟨M, hMM⟩ : ∃ M, M = s.m := ⟨_, rfl⟩
    obtain ⟨Hc, W⟩ := M
    rw [← hMM] at hm hw
    simp only at hm hw
    have hD' : Hc[D]? = some (.cells [.r (slI (doubtsL d))] ty_Sint 1) := by rw [take_get hm (getElem?_lt hD), List.getElem?_set_ne hFD]; exact hD
    have e1 : ((i : Int) < ((doubtsL d).length : Int)) = False := eq_false (by omega)
    have : (doubtsL d).drop i = [] := List.drop_eq_nil_of_le (by omega)
    rw [this]
    exact ⟨_, .exit 0, y, .stop (.of fun K => by rw [he]; simp [l_tally_Ask_1_0, ← hMM, hD', hS.len, e1]; rfl) (by simp), by simp [hm], by simpa using hw, by simp [hd], .inr ⟨rfl, rfl⟩⟩
  | succ k ih =>
    intro i s y hi he hm hw hd
    obtain ⟨M, hMM⟩ : ∃ M, M = s.m := ⟨_, rfl⟩
    obtain ⟨Hc, W⟩ := M
    rw [← hMM] at hm hw
    simp only at hm hw
    have hcl : H.length ≤ Hc.length := by
      have := congrArg List.length hm
      rw [List.length_take, List.length_set] at this; omega
    have up : ∀ j b, j ≠ F → H[j]? = some b → Hc[j]? = some b := fun j b hj hb => by rw [take_get hm (getElem?_lt hb), List.getElem?_set_ne (Ne.symm hj)]; exact hb
    have hD' := up D _ (Ne.symm hFD) hD
    have hC' := up Ch _ (Ne.symm hFC) hC
    have hT' := up T _ (Ne.symm hFT) hT
    have hF' : Hc[F]? = some (.cells [.r y] ty_Sint 0) := by rw [take_get hm hFl, List.getElem?_set_self hFl]
    have hil : i < (doubtsL d).length := by omega
    have e1 : ((i : Int) < ((doubtsL d).length : Int)) = True := eq_true (by omega)
    have w1 : IntKind.wrap .i64 ((i : Int) + 1) = i + 1 := by rw [w64] <;> omega
    obtain ⟨x, hx⟩ : ∃ x, x = (doubtsL d)[i] := ⟨_, rfl⟩
    have hxr : 0 ≤ x ∧ x < 40 := by have := may_nat (d := d) x (by rw [hx]; exact List.getElem_mem hil); omega
    have hat := hS.at (sz := 1) hil
    have hld : ∀ m, loadV m (.r (.ptr ((ints .i64 (doubtsL d)).drop i))) 1 false = some (i64 x) := fun m => by rw [load_ints hil, hx]
    have hdrop : (doubtsL d).drop i = x :: (doubtsL d).drop (i + 1) := by rw [hx]; exact List.drop_eq_getElem_cons hil
    obtain ⟨H2, hH2⟩ : ∃ H2, H2 = Hc ++ [.cells [i64 x] ty_int 0] := ⟨_, rfl⟩
    have hA : appendA { h := Hc } ty_int 1 8 (.r .nil) (.r (.sl [.lit (.int .i64 x)] 1 (some 1))) = some (.osl Hc.length 0 0 1 1 none, { h := H2 }) := by
      unfold appendA
      simp [slCells, rs, roomOk, hH2]
    have hgetN : H2[Hc.length]? = some (.cells [i64 x] ty_int 0) := by simp [hH2]
    have up2 : ∀ j b, Hc[j]? = some b → H2[j]? = some b := fun j b hb => by rw [hH2, List.getElem?_append_left (getElem?_lt hb)]; exact hb
    have hCl := getElem?_lt hC'
    obtain ⟨W2, ⟨c1, k1⟩, hw2⟩ := choose_leaf (F := F) (T := T) (D := D) (Ch := Ch) (l := [x]) (d := d) (by simpa using hxr) (by simp) hd40 e (up2 _ _ hF') (up2 _ _ hT') hFT (v := .osl Hc.length 0 0 1 1 none) (.inr ⟨Hc.length, 0, ty_int, none, rfl, by rw [hgetN]; rfl, by simp⟩) (by
      intro j hj
      simp [avIdx] at hj
      omega) (i + 1) []
    have hw2' : ∀ z ∈ W2, z = F := fun z hz => by simpa using hw2 z hz
    have hap : apartL (wrAll Hc.length { h := H2 }) [Ch] = true := by
      unfold apartL wrAll
      rw [List.all_eq_true]
      intro z hz
      simp [hH2] at hz
      subst hz
      simp; omega
    have hPm : (H2.set F (.cells [.r (slI [x])] ty_Sint 0)).take H.length = H.set F (.cells [.r (slI [x])] ty_Sint 0) := by
      rw [List.take_set, hH2, List.take_append_of_le_length hcl, hm, List.set_set]
    obtain ⟨DV, hDV⟩ : ∃ DV, DV = slI (doubtsL d) := ⟨_, rfl⟩
    obtain ⟨DI, hDI⟩ : ∃ DI, DI = ints .i64 (doubtsL d) := ⟨_, rfl⟩
    have hln := hS.len
    rw [← hDV] at hD' hat hln
    rw [← hDI] at hat hld
    obtain ⟨cv, hcv⟩ : ∃ cv, cv = chV F T D Ch := ⟨_, rfl⟩
    rw [← hcv] at hC' k1
    obtain ⟨H3, hH3⟩ : ∃ H3, H3 = H2.set F (.cells [.r (slI [x])] ty_Sint 0) := ⟨_, rfl⟩
    rw [← hH3] at k1 hPm
    have hW : ∀ z ∈ W2 ++ W, z = F ∨ H.length ≤ z := fun z hz => by
      rcases List.mem_append.1 hz with h | h
      · exact .inl (hw2' z h)
      · exact hw z h
    have hk1 : ∀ n, c1 ≤ n → callN C n cv [.osl Hc.length 0 0 1 1 none, .r (.lit (.int .i64 ((i : Int) + 1))), i64 0] { h := H2 } = some (.ret (bo (decB d [x])) { h := H3, wr := W2 }) := k1
    cases hb : decB d [x] with
    | true =>
      rw [hb] at hk1
      refine ⟨_, .ret, slI [x], .stop (.ofN ⟨c1, fun n hn => by
        rw [he]
        simp [l_tally_Ask_1_0, dn_drawF, denF, denFI, stepF, slotFree, slotOf, foot, avIdx, pairsOk, apartL_nil, wrAll_self, hap, ← hMM, hD', hln, e1, hC', hat, hld, allR, AV.toR, repl, hA, w1, wk0, hk1 n hn]
        rfl⟩) (by simp), ?_, ?_, by simp [hd], .inl ⟨rfl, by simp, x, ?_, rfl⟩⟩
      · simpa using hPm
      · simpa using hW
      · rw [hdrop, List.find?_cons, hb]
    | false =>
      rw [hb] at hk1
      obtain ⟨s', o, z, h1, h2, h3, h4, h5⟩ := ih (i + 1) { s with env := [(0, .r .nil), (2, i64 1), (5, .own D 1 0), (6, .own Ch 0 0), (11, i64 (i + 1 : Nat))], m := { h := H3, wr := W2 ++ W } } (slI [x]) (by omega) (by simp) hPm hW hd
      refine ⟨s', o, z, .more (.ofN ⟨c1, fun n hn => ?_⟩) h1, h2, h3, h4, ?_⟩
      · rw [he]
        simp [l_tally_Ask_1_0, dn_drawF, denF, denFI, stepF, slotFree, slotOf, foot, avIdx, pairsOk, apartL_nil, wrAll_self, hap, ← hMM, hD', hln, e1, hC', hat, hld, allR, AV.toR, repl, hA, w1, wk0, hk1 n hn]
      · rw [hdrop, List.find?_cons, hb]; exact h5
/-- All single members are tried. -/
theorem choose_one (hd40 : d.n ≤ 40) (e : openI d = 0) {H : List Blk} {x : RV} (hF : H[F]? = some (.cells [.r x] ty_Sint 0)) (hT : H[T]? = some (.cells [.r (allV d)] ty_Stally_told 1)) (hD : H[D]? = some (.cells [.r (slI (doubtsL d))] ty_Sint 1)) (hC : H[Ch]? = some (.cells [chV F T D Ch] ty_func_Sint_int_int_bool 0))
    (hFT : F ≠ T) (hFD : F ≠ D) (hFC : F ≠ Ch) (W : List Nat) :
    ∃ W' z, CallR C (chV F T D Ch) [.r .nil, i64 0, i64 1] { h := H, wr := W } (.ret (bo ((doubtsL d).find? fun x => decB d [x]).isSome) { h := H.set F (.cells [.r z] ty_Sint 0), wr := W' }) ∧ (∀ y ∈ W', y ∈ W ∨ y = F) ∧ ∀ x, (doubtsL d).find? (fun x => decB d [x]) = some x → z = slI [x] := by
  have hFl := getElem?_lt hF
  obtain ⟨s, o, z, l1, h2, h3, h4, h5⟩ := one_loop hd40 e hFl hT hD hC hFT hFD hFC (doubtsL d).length 0 { env := [(0, .r .nil), (2, i64 1), (5, .own D 1 0), (6, .own Ch 0 0), (11, i64 0)], m := { h := H } } x (by omega) (by simp) (by simp [set_same hF]) (by simp) rfl
  rw [List.drop_zero] at h5
  obtain ⟨c1, k1⟩ := l1.get
  obtain ⟨Hc, W1, hsm⟩ : ∃ Hc W1, s.m = { h := Hc, wr := W1 } := ⟨_, _, rfl⟩
  rw [hsm] at h2 h3
  simp only at h2 h3
  have hset : ∀ b : Bool, ∃ W', Go.AM.settle C.fz (C.keepAll fn_tally_Ask_1) { h := H, wr := W } (bo b) { h := Hc, wr := W1 } = (bo b, { h := H.set F (.cells [.r z] ty_Sint 0), wr := W' }) ∧ ∀ y ∈ W', y ∈ W ∨ y = F := by
    intro b
    refine ⟨oldWr H.length W1 ++ W, ?_, fun y hy => ?_⟩
    · rw [show C.keepAll fn_tally_Ask_1 = false from rfl, settle_w (v' := bo b) rfl]
      · show _ = (bo b, Mem.mk (H.set F _) _)
        rw [← h2]
      · intro j hj hjl q hq
        simp only at hq hjl
        have : j = F := by rcases h3 j hj with h | h <;> omega
        subst this
        rw [take_get h2 hFl, List.getElem?_set_self hFl] at hq
        cases hq; rfl
    · rcases List.mem_append.1 hy with hy | hy
      · unfold oldWr at hy
        obtain ⟨q1, q2⟩ := List.mem_filter.1 hy
        have q2 : y < H.length := by simpa using q2
        rcases h3 y q1 with h | h
        · exact .inr h
        · omega
      · exact .inl hy
  rcases h5 with ⟨rfl, h5, x', h6, h7⟩ | ⟨rfl, h6⟩
  · obtain ⟨W', hs, hw⟩ := hset true
    refine ⟨W', z, CallR.evalW (m1 := { h := Hc, wr := W1 }) (v := bo true) rfl prog_tally_Ask_1 rfl ⟨c1, fun k hk => ?_⟩ (by rw [h6]; exact hs), hw, fun y hy => by rw [h6] at hy; cases hy; exact h7⟩
    simp [runK, finK, a_tally_Ask_1, k1 k hk, h5, h4, hsm]
  · obtain ⟨W', hs, hw⟩ := hset false
    refine ⟨W', z, CallR.evalW (m1 := { h := Hc, wr := W1 }) (v := bo false) rfl prog_tally_Ask_1 rfl ⟨c1, fun k hk => ?_⟩ (by rw [h6]; exact hs), hw, fun y hy => by rw [h6] at hy; cases hy⟩
    simp [runK, finK, a_tally_Ask_1, k1 k hk, h4, hsm]
end
end Go.AM.T
/- What the functions compute (own work). -/
namespace Go.AM.T
open Go Go.AM
attribute [local simp] so_mov so_pick so_alloc so_box so_build so_slit so_load so_store so_nilc so_bin so_beq so_eqs so_eqn so_eqnl so_not so_conv so_s2b so_mkfn so_slcA so_padd so_fld so_idxA so_idxV so_idxT so_look so_mupd so_mkmap so_mksl so_ext so_app so_lenT so_lenM so_min so_max so_cpy so_clr so_mkif so_tass so_lenS so_idxS so_slc
attribute [local simp] dn_skip dn_label dn_ret dn_exit dn_scope dn_keep dn_reg dn_draw0 noSlots denE denEI stepE  sd_mov sd_pick sd_build sd_load sd_store sd_nilc sd_bin sd_beq sd_eqs sd_eqn sd_eqnl sd_not sd_conv sd_s2b sd_mkfn sd_slc sd_slcA sd_padd sd_fld sd_idxS sd_idxA sd_idxV sd_idxT sd_look sd_mupd sd_ext sd_app sd_lenS sd_lenT sd_lenM sd_min sd_max sd_mkif sd_tass sd_call sd_slit dn_seq dn_cond dn_block dn_loop kn_call denIs denI denOp wants ev eget putD binL enumFrom AV.bool? AV.int? ekeep evs evp runV fin runDefs resAll resOf tupOf unit AV.cells okV ok1 Value.oneCell' fill setN rcells rs_nil rs_cons load_own load_cons mkAgg_rs storeN jmpOut
attribute [local simp] dvL dv1t dvAt mkAgg2 dv0 dv1 dv2 dv3 dv4 dv5 dv6 dv7 dv8 dv9 dv10 dvA dvN dvAll C_fz fzr
theorem sd_slot (K : Kit) (base : Nat) (e : Env) (h : List Blk) (k : Nat) (t : TypeId) (z : List RV) : stepD K base e h (.slot k t z) = match h[base + k]? with
    | some .dead => some (.own (base + k) 1 0, { h := h.set (base + k) (.cells (rs z) t 1), wr := [base + k] })
    | _ => none := rfl
section
variable {d : Div} {a0 a1 n0 n1 p q : RV}
/-- The least question, where one member is enough. -/
theorem Ask_one (hs : DivS d a0 a1 n0 n1 p q) (hb : Small d) (hru : 0 ≤ d.rule ∧ d.rule ≤ 255) (e : openI d = 0) (h2 : 2 ≤ (doubtsL d).length) (h0 : decB d [] = false) {x : Int} (hx : (doubtsL d).find? (fun x => decB d [x]) = some x) (m : Mem) :
    CallR C (fnv fn_tally_Ask) [.r (.agg (divC d a0 a1 n0 n1 p q))] m (.ret (.tup [.r (slI [x]), i64 0]) m) := by
  obtain ⟨R, hRR⟩ : ∃ R, R = lookC d (divC d a0 a1 n0 n1 p q) := ⟨_, rfl⟩
  have lR : R.length = 91 := by rw [hRR]; exact lookC_len
  have hRt : List.take 91 (rs R) = rs R := List.take_of_length_le (by rw [rs_len]; omega)
  obtain ⟨Z, hZ⟩ : ∃ Z, Z = z_tally_looked := ⟨_, rfl⟩
  have hZl : Z.length = 91 := by rw [hZ]; rfl
  have hZd : List.drop 91 (rs Z) = [] := List.drop_eq_nil_of_le (by rw [rs_len]; omega)
  have hd11 : (divC d a0 a1 n0 n1 p q).length = 11 := rfl
  obtain ⟨hr, -, -⟩ := openI0 e
  have hn := right_n hr
  obtain ⟨c1, k1⟩ := topen_spec hs hb hru { h := m.h ++ [.cells (rs (divC d a0 a1 n0 n1 p q)) ty_tally_Division 0] }
  rw [if_pos e, e, ← hRR] at k1
  obtain ⟨c2, k2⟩ := doubts_spec (d := d) (a0 := a0) (a1 := a1) (n0 := n0) (n1 := n1) (p := p) (q := q) hn { h := m.h ++ [.cells (rs (divC d a0 a1 n0 n1 p q)) ty_tally_Division 0, .cells (rs R) ty_tally_looked 0, .dead, .dead] }
  obtain ⟨c3, k3⟩ := all_told_spec hs hru.1 e { h := m.h ++ [.cells (rs (divC d a0 a1 n0 n1 p q)) ty_tally_Division 0, .cells (rs R) ty_tally_looked 0, .dead, .dead] }
  rw [← hRR] at k2 k3
  obtain ⟨D, hD⟩ : ∃ D, D = divC d a0 a1 n0 n1 p q := ⟨_, rfl⟩
  rw [← hD] at k1 k2 k3 hd11 ⊢
  have hDt : List.take 11 (rs D) = rs D := List.take_of_length_le (by rw [rs_len]; omega)
  obtain ⟨F, hF⟩ : ∃ F, F = m.h.length + 4 := ⟨_, rfl⟩
  obtain ⟨H, hH⟩ : ∃ H, H = m.h ++ [.cells (rs D) ty_tally_Division 0, .cells (rs R) ty_tally_looked 0, .cells [.r (slI (doubtsL d))] ty_Sint 1, .cells [.r (allV d)] ty_Stally_told 1, .cells [.r .nil] ty_Sint 0, .cells [chV (m.h.length + 4) (m.h.length + 3) (m.h.length + 2) (m.h.length + 5)] ty_func_Sint_int_int_bool 0] := ⟨_, rfl⟩
  have g2 : H[m.h.length + 2]? = some (.cells [.r (slI (doubtsL d))] ty_Sint 1) := by rw [hH, get_midk]; rfl
  have g3 : H[m.h.length + 3]? = some (.cells [.r (allV d)] ty_Stally_told 1) := by rw [hH, get_midk]; rfl
  have g4 : H[m.h.length + 4]? = some (.cells [.r .nil] ty_Sint 0) := by rw [hH, get_midk]; rfl
  have g5 : H[m.h.length + 5]? = some (.cells [chV (m.h.length + 4) (m.h.length + 3) (m.h.length + 2) (m.h.length + 5)] ty_func_Sint_int_int_bool 0) := by rw [hH, get_midk]; rfl
  obtain ⟨W1, ⟨c4, k4⟩, hw1⟩ := choose_leaf (F := m.h.length + 4) (T := m.h.length + 3) (D := m.h.length + 2) (Ch := m.h.length + 5) (l := []) (d := d) (by simp) (by simp) hn.2 e g4 g3 (by omega) (v := .r .nil) (.inl ⟨rfl, rfl⟩) (by simp [avIdx]) 0 [m.h.length + 5, m.h.length + 3, m.h.length + 2, m.h.length + 3, m.h.length + 2, m.h.length + 1]
  rw [h0] at k4
  obtain ⟨H2, hH2⟩ : ∃ H2, H2 = H.set (m.h.length + 4) (.cells [.r (slI [])] ty_Sint 0) := ⟨_, rfl⟩
  rw [← hH2] at k4
  have f2 : H2[m.h.length + 2]? = some (.cells [.r (slI (doubtsL d))] ty_Sint 1) := by rw [hH2, List.getElem?_set_ne (by omega)]; exact g2
  have f3 : H2[m.h.length + 3]? = some (.cells [.r (allV d)] ty_Stally_told 1) := by rw [hH2, List.getElem?_set_ne (by omega)]; exact g3
  have f4 : H2[m.h.length + 4]? = some (.cells [.r (slI [])] ty_Sint 0) := by rw [hH2, List.getElem?_set_self (getElem?_lt g4)]
  have f5 : H2[m.h.length + 5]? = some (.cells [chV (m.h.length + 4) (m.h.length + 3) (m.h.length + 2) (m.h.length + 5)] ty_func_Sint_int_int_bool 0) := by rw [hH2, List.getElem?_set_ne (by omega)]; exact g5
  obtain ⟨W2, z, ⟨c5, k5⟩, hw2, hz⟩ := choose_one (x := slI []) hn.2 e f4 f3 f2 f5 (by omega) (by omega) (by omega) W1
  rw [hx] at k5
  have hz := hz x hx
  rw [hz] at k5
  obtain ⟨H3, hH3⟩ : ∃ H3, H3 = H2.set (m.h.length + 4) (.cells [.r (slI [x])] ty_Sint 0) := ⟨_, rfl⟩
  rw [← hH3] at k5
  have i4 : H3[m.h.length + 4]? = some (.cells [.r (slI [x])] ty_Sint 0) := by rw [hH3, List.getElem?_set_self (getElem?_lt f4)]
  have e1 : (0 < ((doubtsL d).length : Int)) = True := eq_true (by omega)
  have e2 : (1 < ((doubtsL d).length : Int)) = True := eq_true (by omega)
  have e1' : (0 < (doubtsL d).length) = True := eq_true (by omega)
  have e2' : (1 < (doubtsL d).length) = True := eq_true (by omega)
  have hl := (Sl.slI (doubtsL d)).len
  have ht : H3.take m.h.length = m.h := by rw [hH3, List.take_set_of_le (by omega), hH2, List.take_set_of_le (by omega), hH]; simp
  have hxs : slI [x] = .sl [.lit (.int .i64 x)] 1 none := rfl
  obtain ⟨DI, n, hDV⟩ : ∃ DI n, slI (doubtsL d) = .sl DI n none := ⟨ints .i64 (doubtsL d), (doubtsL d).length, by unfold slI gsV; rw [if_neg (by omega)]⟩
  obtain ⟨TC, tn, hV⟩ : ∃ TC tn, allV d = .sl TC tn none := ⟨_, _, rfl⟩
  rw [hDV] at hl k2 g2 f2 hH
  rw [hV] at k3 g3 f3 hH
  have hwr : ∀ y ∈ W2, m.h.length ≤ y := fun y hy => by
    rcases hw2 y hy with h | rfl
    · rcases hw1 y h with h | rfl
      · simp at h; omega
      · omega
    · omega
  simp only [chV] at hH k4 k5 g5 f5
  refine CallR.eval (m1 := { h := H3, wr := W2 }) rfl rfl prog_tally_Ask rfl ⟨c1 + c2 + c3 + c4 + c5 + 5, fun k hk => ?_⟩ ht hwr
  obtain ⟨j, rfl⟩ : ∃ j, k = j + 5 := ⟨k - 5, by omega⟩
  have l21 : m.h.length + 2 + 1 = m.h.length + 3 := rfl
  simp [a_tally_Ask, l21, dn_drawF, sd_slot, denF, denFI, stepF, slotFree, slotOf, foot, avIdx, wrAll, pairsOk, apartL, ← hZ, hd11, hDt, rs_len, hZl, hZd, lR, hRt, k1 (j + 5) (by omega), k2 (j + 5) (by omega), k3 (j + 5) (by omega), allR, AV.toR, ← hH, goLoop, kn_iter, iterN, l_tally_Ask_0, g2, g5, f2, f5, i4, hl, e1, e2, e1', e2', wk0, wk1, k4 (j + 5) (by omega), k5 (j + 5) (by omega), hxs, fz, fzs]
end
end Go.AM.T
/- What the functions compute (own work). -/
namespace Go.AM.T
open Go Go.AM
attribute [local simp] so_mov so_pick so_alloc so_box so_build so_slit so_load so_store so_nilc so_bin so_beq so_eqs so_eqn so_eqnl so_not so_conv so_s2b so_mkfn so_slcA so_padd so_fld so_idxA so_idxV so_idxT so_look so_mupd so_mkmap so_mksl so_ext so_app so_lenT so_lenM so_min so_max so_cpy so_clr so_mkif so_tass so_lenS so_idxS so_slc
attribute [local simp] dn_skip dn_label dn_ret dn_exit dn_scope dn_keep dn_reg dn_draw0 noSlots denE denEI stepE  sd_mov sd_pick sd_build sd_load sd_store sd_nilc sd_bin sd_beq sd_eqs sd_eqn sd_eqnl sd_not sd_conv sd_s2b sd_mkfn sd_slc sd_slcA sd_padd sd_fld sd_idxS sd_idxA sd_idxV sd_idxT sd_look sd_mupd sd_ext sd_app sd_lenS sd_lenT sd_lenM sd_min sd_max sd_mkif sd_tass sd_call sd_slit dn_seq dn_cond dn_block dn_loop kn_call denIs denI denOp wants ev eget putD binL enumFrom AV.bool? AV.int? ekeep evs evp runV fin runDefs resAll resOf tupOf unit AV.cells okV ok1 Value.oneCell' fill setN rcells rs_nil rs_cons load_own load_cons mkAgg_rs storeN jmpOut
attribute [local simp] dvL dv1t dvAt mkAgg2 dv0 dv1 dv2 dv3 dv4 dv5 dv6 dv7 dv8 dv9 dv10 dvA dvN dvAll C_fz fzr
def il (l : List Int) : RV := .sl (ints .i64 l) l.length (some l.length)
def ul (l : List Int) : RV := .sl (ints .u8 l) l.length (some l.length)
def pl (l : List (Int × Int)) : RV := .sl (prs l) l.length (some l.length)
/-- The division of the document's examples. -/
def lobD : Div := ⟨6, [0, 1, 2], [0, 1, 3], [4, 5], [4, 5], [], [(4, 3)], 0, 0, 3, 2⟩
def lobC : List RV := divC lobD (il [0, 1, 2]) (il [0, 1, 3]) (il [4, 5]) (il [4, 5]) .nil (pl [(4, 3)])
theorem il_S (l : List Int) : SlI l (il l) := Sl.mk _ _ _
theorem pl_S (l : List (Int × Int)) : SlP l (pl l) := Sl.mk _ _ _
theorem lobS : DivS lobD (il [0, 1, 2]) (il [0, 1, 3]) (il [4, 5]) (il [4, 5]) .nil (pl [(4, 3)]) := ⟨il_S _, il_S _, il_S _, il_S _, Sl.nil, pl_S _⟩
theorem lobbies_spec (m : Mem) : CallR C (fnv fn_law07_lobbies) [] m (.ret (.r (.agg lobC)) m) := by
  refine CallR.eval (m1 := { h := m.h ++ [.cells (rs lobC) ty_tally_Division 0], wr := [m.h.length] }) rfl rfl prog_law07_lobbies rfl ⟨0, fun k hk => ?_⟩ (by simp) (by simp)
  simp [a_law07_lobbies, allR, AV.toR, mkAgg, repl, lobC, divC, il, pl, ints, prs, lobD]
theorem lobOpen : openI lobD = 0 := by kernel_rfl
theorem lobDoubts : doubtsL lobD = [2, 3] := by kernel_rfl
theorem lobBn : (bnL lobD).a = (2, 4) ∧ (bnL lobD).b = (2, 3) := ⟨by kernel_rfl, by kernel_rfl⟩
theorem lobAl : alS lobD = [0, 1] := by kernel_rfl
theorem lobDec0 : decB lobD [] = false := by kernel_rfl
theorem lobDec1 : (doubtsL lobD).find? (fun x => decB lobD [x]) = some 3 := by kernel_rfl
theorem lobSmall : Small lobD := ⟨by decide, by decide, by decide, by decide, by decide, by decide⟩
theorem lobRule : 0 ≤ lobD.rule ∧ lobD.rule ≤ 255 := by decide
/-- The law's examples hold, whatever memory holds. -/
theorem wakes_spec (m : Mem) : CallR C (fnv fn_law07_wakes) [] m (.ret (bo true) m) := by
  have hf : faultI lobD = 0 := by kernel_rfl
  obtain ⟨c1, k1⟩ := lobbies_spec { h := m.h }
  obtain ⟨c2, k2⟩ := Doubts_spec lobS lobSmall lobRule { h := m.h }
  obtain ⟨c3, k3⟩ := Bounds_spec lobS lobSmall lobRule { h := m.h }
  obtain ⟨H, hH⟩ : ∃ H, H = m.h ++ [.cells [i64 2, i64 4] ty_tally_Range 0, .cells [i64 2, i64 3] ty_tally_Range 0] := ⟨_, rfl⟩
  obtain ⟨c4, k4⟩ := lobbies_spec { h := H, wr := [m.h.length + 1, m.h.length] }
  obtain ⟨c5, k5⟩ := Allowed_spec lobS lobSmall lobRule { h := H, wr := [m.h.length + 1, m.h.length] }
  obtain ⟨c6, k6⟩ := Ask_one lobS lobSmall lobRule lobOpen (by rw [lobDoubts]; decide) lobDec0 lobDec1 { h := H, wr := [m.h.length + 1, m.h.length] }
  rw [if_pos hf, hf, lobDoubts] at k2
  rw [if_pos lobOpen, if_pos lobOpen, lobOpen, lobBn.1, lobBn.2] at k3
  rw [if_pos lobOpen, lobOpen, lobAl] at k5
  have g0 : H[m.h.length]? = some (.cells [i64 2, i64 4] ty_tally_Range 0) := by simp [hH]
  have g1 : H[m.h.length + 1]? = some (.cells [i64 2, i64 3] ty_tally_Range 0) := by simp [hH]
  obtain ⟨c7, k7⟩ := law07_ints_spec (Sl.slI [2, 3]) (il_S [2, 3]) (by decide) { h := H, wr := [m.h.length + 1, m.h.length] }
  obtain ⟨c8, k8⟩ := law07_ints_spec (Sl.slI [3]) (il_S [3]) (by decide) { h := H, wr := [m.h.length + 1, m.h.length] }
  obtain ⟨c9, k9⟩ := law07_votes_spec (l := [0, 1]) (k := [0, 1]) (v := .sl (ints .u8 [0, 1]) 2 none) (w := .sl (ints .u8 [0, 1]) 2 (some 2)) (Sl.mk _ _ _) (Sl.mk _ _ _) (by decide) { h := H, wr := [m.h.length + 1, m.h.length] }
  obtain ⟨Lc, hLc⟩ : ∃ Lc, Lc = lobC := ⟨_, rfl⟩
  rw [show divC lobD (il [0, 1, 2]) (il [0, 1, 3]) (il [4, 5]) (il [4, 5]) .nil (pl [(4, 3)]) = lobC from rfl, ← hLc] at k2 k3 k5 k6
  rw [← hLc] at k1 k4
  have ht : H.take m.h.length = m.h := by simp [hH]
  refine CallR.eval (m1 := { h := H, wr := [m.h.length + 1, m.h.length] }) rfl rfl prog_law07_wakes rfl ⟨c1 + c2 + c3 + c4 + c5 + c6 + c7 + c8 + c9, fun k hk => ?_⟩ ht (by simp)
  have k7 := k7 k (by omega)
  have k8 := k8 k (by omega)
  have k9 := k9 k (by omega)
  simp [slI, gsV, ints, il] at k7 k8 k9
  have k2 := k2 k (by omega)
  have k3 := k3 k (by omega)
  have k5 := k5 k (by omega)
  have k6 := k6 k (by omega)
  simp [slI, gsV, ints, nmR] at k2 k3 k5 k6
  simp [a_law07_wakes, k1 k (by omega), k2, k3, k4 k (by omega), k5, k6, ← hH, allR, AV.toR, repl, mkAgg, k7, k8, k9, g0, g1, rvEqs, rvEq]
end Go.AM.T
/- What the functions compute (own work). -/
namespace Go.AM.T
open Go Go.AM
attribute [local simp] so_mov so_pick so_alloc so_box so_build so_slit so_load so_store so_nilc so_bin so_beq so_eqs so_eqn so_eqnl so_not so_conv so_s2b so_mkfn so_slcA so_padd so_fld so_idxA so_idxV so_idxT so_look so_mupd so_mkmap so_mksl so_ext so_app so_lenT so_lenM so_min so_max so_cpy so_clr so_mkif so_tass so_lenS so_idxS so_slc
attribute [local simp] dn_skip dn_label dn_ret dn_exit dn_scope dn_keep dn_reg dn_draw0 noSlots denE denEI stepE  sd_mov sd_pick sd_build sd_load sd_store sd_nilc sd_bin sd_beq sd_eqs sd_eqn sd_eqnl sd_not sd_conv sd_s2b sd_mkfn sd_slc sd_slcA sd_padd sd_fld sd_idxS sd_idxA sd_idxV sd_idxT sd_look sd_mupd sd_ext sd_app sd_lenS sd_lenT sd_lenM sd_min sd_max sd_mkif sd_tass sd_call sd_slit dn_seq dn_cond dn_block dn_loop kn_call denIs denI denOp wants ev eget putD binL enumFrom AV.bool? AV.int? ekeep evs evp runV fin runDefs resAll resOf tupOf unit AV.cells okV ok1 Value.oneCell' fill setN rcells rs_nil rs_cons load_own load_cons mkAgg_rs storeN jmpOut
attribute [local simp] dvL dv1t dvAt mkAgg2 dv0 dv1 dv2 dv3 dv4 dv5 dv6 dv7 dv8 dv9 dv10 dvA dvN dvAll C_fz fzr
theorem tg_pad (u : List Int) (i : Nat) : tg (pad u) i = tg u i := by
  unfold tg pad
  rw [List.getD_eq_getElem?_getD, List.getD_eq_getElem?_getD]
  by_cases h : i < u.length
  · rw [List.getElem?_append_left h]
  · rw [List.getElem?_append_right (by omega), List.getElem?_eq_none (by omega : u.length ≤ i)]
    by_cases h2 : i - u.length < 40 - u.length
    · rw [List.getElem?_replicate, if_pos h2]; rfl
    · rw [List.getElem?_replicate, if_neg h2]
theorem nums_pad (d : Div) (u : List Int) : numsL d (pad u) = numsL d u := by
  have h1 : memStep d (pad u) = memStep d u := by
    funext n i; unfold memStep; rw [tg_pad]
  have h2 : proxStep d (pad u) = proxStep d u := by
    funext n x; unfold proxStep; rw [tg_pad, tg_pad]
  unfold numsL numsM
  rw [h1, h2]
/-- What the law reckons: both ranges, out of numbers. -/
def lwStep (s : (Int × Int) × (Int × Int)) (n : Int × Int) : (Int × Int) × (Int × Int) := ((mn s.1.1 n.1, mx s.1.2 n.1), (mn s.2.1 n.2, mx s.2.2 n.2))
def lw0 (n : Int × Int) : (Int × Int) × (Int × Int) := ((n.1, n.1), (n.2, n.2))
def lwL : List (Int × Int) → (Int × Int) × (Int × Int)
  | [] => ((0, 0), (0, 0))
  | n :: l => l.foldl lwStep (lw0 n)
theorem bn_lw (d : Div) : ∀ (l : List (List Int)) (s : Bn), s.first = false → (s.a.1 ≤ s.last.1 ∧ s.last.1 ≤ s.a.2) → (s.b.1 ≤ s.last.2 ∧ s.last.2 ≤ s.b.2) →
    (foldS (bnStep d) s l).1.a = ((l.map (numsL d)).foldl lwStep (s.a, s.b)).1 ∧ (foldS (bnStep d) s l).1.b = ((l.map (numsL d)).foldl lwStep (s.a, s.b)).2
  | [], s, _, _, _ => ⟨rfl, rfl⟩
  | t :: l, s, hf, ha, hb => by
    rw [foldS_cons, if_pos (bnStep_2 d s t), List.map_cons, List.foldl_cons]
    have hs : (bnStep d s t).1 = ⟨false, (mn s.a.1 (numsL d t).1, mx s.a.2 (numsL d t).1), (mn s.b.1 (numsL d t).2, mx s.b.2 (numsL d t).2), numsL d t⟩ := by
      unfold bnStep
      rw [if_neg (by simp [hf])]
      split
      · rename_i e
        rw [e]
        have h1 : mn s.a.1 s.last.1 = s.a.1 := by unfold mn; split <;> omega
        have h2 : mx s.a.2 s.last.1 = s.a.2 := by unfold mx; split <;> omega
        have h3 : mn s.b.1 s.last.2 = s.b.1 := by unfold mn; split <;> omega
        have h4 : mx s.b.2 s.last.2 = s.b.2 := by unfold mx; split <;> omega
        rw [h1, h2, h3, h4]
      · rfl
    have ih := bn_lw d l (bnStep d s t).1 (by rw [hs]) (by
      rw [hs]; simp only [mn, mx]
      constructor <;> split <;> omega) (by
      rw [hs]; simp only [mn, mx]
      constructor <;> split <;> omega)
    rw [hs] at ih ⊢
    exact ih
theorem bnL_lw {d : Div} (ho : openI d = 0) : (bnL d).a = (lwL ((rtOf d).map (numsL d))).1 ∧ (bnL d).b = (lwL ((rtOf d).map (numsL d))).2 := by
  have hn := right_n (openI0 ho).1
  have hne := truthsOf_ne ho
  unfold bnL
  have hm : (rtOf d).map (numsL d) = (truthsOf d).map (numsL d) := by
    rw [truthsOf_rt hn.2, List.map_map]
    refine List.map_congr_left fun u _ => ?_
    show _ = numsL d (pad u)
    rw [nums_pad]
  rw [hm]
  cases ht : truthsOf d with
  | nil => exact absurd ht hne
  | cons t l =>
    rw [foldS_cons, if_pos (bnStep_2 d _ t), List.map_cons]
    have hs : (bnStep d bn0 t).1 = ⟨false, ((numsL d t).1, (numsL d t).1), ((numsL d t).2, (numsL d t).2), numsL d t⟩ := by unfold bnStep bn0; rfl
    have := bn_lw d l (bnStep d bn0 t).1 (by rw [hs]) (by rw [hs]; exact ⟨Int.le_refl _, Int.le_refl _⟩) (by rw [hs]; exact ⟨Int.le_refl _, Int.le_refl _⟩)
    rw [hs] at this ⊢
    exact this
theorem rt_ok {d : Div} : ∀ u ∈ rtOf d, u.length = d.n.toNat ∧ VOk u := fun u hu => ⟨by have := rtF_len _ _ _ hu; simpa using this, rtF_ok _ _ _ (by simp [VOk]) hu⟩
theorem rtOf_ne {d : Div} (ho : openI d = 0) : rtOf d ≠ [] := by
  have h := truthsOf_ne ho
  rw [truthsOf_rt (right_n (openI0 ho).1).2] at h
  simpa using h
theorem find_range {α : Type} (l : List α) (x0 : α) (p : α → Bool) : l.find? p = ((List.range l.length).find? fun j => p (l.getD j x0)).map fun j => l.getD j x0 := by
  induction l with
  | nil => rfl
  | cons x l ih =>
    rw [List.find?_cons, List.length_cons, List.range_succ_eq_map, List.find?_cons]
    have h0 : (x :: l).getD 0 x0 = x := rfl
    rw [h0]
    cases hp : p x with
    | true => rfl
    | false =>
      rw [ih, List.find?_map]
      have : ((fun j => p ((x :: l).getD j x0)) ∘ Nat.succ) = fun j => p (l.getD j x0) := by funext j; rfl
      rw [this, Option.map_map]
      rfl
theorem any_range {α : Type} (l : List α) (x0 : α) (p : α → Bool) : ((List.range l.length).any fun j => p (l.getD j x0)) = l.any p := by
  have h := find_range l x0 p
  have e1 : (l.find? p).isSome = l.any p := by rw [Bool.eq_iff_iff, List.find?_isSome, List.any_eq_true]
  have e2 : ((List.range l.length).find? fun j => p (l.getD j x0)).isSome = (List.range l.length).any fun j => p (l.getD j x0) := by rw [Bool.eq_iff_iff, List.find?_isSome, List.any_eq_true]
  rw [← e1, ← e2, h]; simp
theorem alL_rt {d : Div} (h : d.n ≤ 40) (o : Int) : (alL d).contains o = (rtOf d).any fun u => outcomeI d (numsL d u) == o := by
  rw [Bool.eq_iff_iff, List.any_eq_true]
  rw [List.contains_iff_mem, alL_mem, truthsOf_rt h]
  constructor
  · rintro ⟨t, ht, e⟩
    obtain ⟨u, hu, rfl⟩ := List.mem_map.1 ht
    exact ⟨u, hu, by rw [nums_pad] at e; simp [e]⟩
  · rintro ⟨u, hu, e⟩
    exact ⟨pad u, List.mem_map.2 ⟨u, hu, rfl⟩, by rw [nums_pad]; simpa using e⟩
theorem openI_1 (d : Div) : openI d = 1 ↔ rightB d = false := by
  unfold openI faultI
  cases rightB d with
  | false => simp
  | true =>
    cases (clashB d).isSome with
    | true => simp
    | false => by_cases h : 8 < (doubtsL d).length <;> simp [h]
end Go.AM.T
/- What the functions compute (own work). -/
namespace Go.AM.T
open Go Go.AM
attribute [local simp] so_mov so_pick so_alloc so_box so_build so_slit so_load so_store so_nilc so_bin so_beq so_eqs so_eqn so_eqnl so_not so_conv so_s2b so_mkfn so_slcA so_padd so_fld so_idxA so_idxV so_idxT so_look so_mupd so_mkmap so_mksl so_ext so_app so_lenT so_lenM so_min so_max so_cpy so_clr so_mkif so_tass so_lenS so_idxS so_slc
attribute [local simp] dn_skip dn_label dn_ret dn_exit dn_scope dn_keep dn_reg dn_draw0 noSlots denE denEI stepE  sd_mov sd_pick sd_build sd_load sd_store sd_nilc sd_bin sd_beq sd_eqs sd_eqn sd_eqnl sd_not sd_conv sd_s2b sd_mkfn sd_slc sd_slcA sd_padd sd_fld sd_idxS sd_idxA sd_idxV sd_idxT sd_look sd_mupd sd_ext sd_app sd_lenS sd_lenT sd_lenM sd_min sd_max sd_mkif sd_tass sd_call sd_slit dn_seq dn_cond dn_block dn_loop kn_call denIs denI denOp wants ev eget putD binL enumFrom AV.bool? AV.int? ekeep evs evp runV fin runDefs resAll resOf tupOf unit AV.cells okV ok1 Value.oneCell' fill setN rcells rs_nil rs_cons load_own load_cons mkAgg_rs storeN jmpOut
attribute [local simp] dvL dv1t dvAt mkAgg2 dv0 dv1 dv2 dv3 dv4 dv5 dv6 dv7 dv8 dv9 dv10 dvA dvN dvAll C_fz fzr
/-- The least truth with an outcome, and one truth more. -/
def wiStep (d : Div) (o : Int) (s : Option (List Int)) (t : List Int) : Option (List Int) × Bool :=
  match s with
  | some u => (some u, false)
  | none => if outcomeI d (numsL d t) = o then (some (t.take d.n.toNat), false) else (none, true)
def wiR (s : Option (List Int)) : RV := match s with | some u => .sl (ints .u8 u) u.length none | none => .nil
def wiE (s : Option (List Int)) : Int := 0
def lpW (d : Div) (L : Nat) (D R : List RV) (o : Int) : Lp (Option (List Int)) where
  E := [(3, .own (L + 1) 0 0), (4, .own (L + 2) 0 0), (5, .own (L + 3) 0 0), (6, .own (L + 4) 0 0), (25, .r (.fn fn_tally_looked_truths_1 [] [.ptr R]))]
  pt := 26
  tt := 8
  bd := b_tally_Witness_0
  k := 5
  P := fun s _ => [.cells (rs D) ty_tally_Division 0, .cells [u8 o] ty_uint8 0, .cells [.r (wiR s)] ty_Suint8 0, .cells [i64 0] ty_api_Errno 0, .cells (rs R) ty_tally_looked 0]
  T := ty_uint8
  sz := 1
  cs := fun _ => []
  nn := fun _ => 0
  jb := 2
  Tb := ty_Suint8
  alive := fun s => s.isNone
  rank := fun _ => 0
  N := 10000
  step := wiStep d o
theorem CloneU_spec {l : List Int} {m : Mem} {B g : Nat} {T : TypeId} {cap : Option Nat} {t : List Int} (hB : m.h[B]? = some (.cells (rs (ints .u8 t)) T g)) (hl : l = t.take l.length) (hpos : 0 < l.length) (hlt : l.length ≤ t.length) (h40 : t.length = 40) :
    CallR C (fnv fn_slices_Clone_Suint8_uint8) [.osl B g 0 l.length 1 cap] m (.ret (.r (.sl (ints .u8 l) l.length none)) m) := by
  have htk : List.take l.length (rs (ints .u8 t)) = rs (ints .u8 l) := by
    conv => rhs; rw [hl]
    simp [rs, ints, List.map_take]
  have hsl : ∀ W, slCells { h := m.h, wr := W } (.osl B g 0 l.length 1 cap) 1 = some (rs (ints .u8 l), l.length) := fun W => by
    simp only [slCells, rcells, hB, if_true]
    rw [if_pos ⟨trivial, by rw [rs_len, ints_len]; omega⟩, List.drop_zero, Nat.mul_one, htk]
  have happ : ∀ W, appendA { h := m.h, wr := W } ty_uint8 1 1 (.r (.sl [] 0 (some 0))) (.osl B g 0 l.length 1 cap) = some (.osl m.h.length 0 0 l.length 1 none, { h := m.h ++ [.cells (rs (ints .u8 l)) ty_uint8 0], wr := W }) := fun W => by
    unfold appendA
    rw [hsl]
    simp only
    rw [if_neg (by omega), if_pos ⟨by omega, rfl, by simp [roomOk]; omega⟩]
    simp [rs]
  have hz : ∀ W, fz { h := m.h ++ [.cells (rs (ints .u8 l)) ty_uint8 0], wr := W } m.h.length 1000000 (.osl m.h.length 0 0 l.length 1 none) = some (.r (.sl (ints .u8 l) l.length none)) := fun W => fz_osl (t := ty_uint8) (g := 0) (by simp) (Nat.le_refl _) (by rw [ints_len]; omega) (by rw [ints_len]; omega)
  obtain ⟨I, hI⟩ : ∃ I, I = ints .u8 l := ⟨_, rfl⟩
  obtain ⟨n, hn⟩ : ∃ n, n = l.length := ⟨_, rfl⟩
  rw [← hI] at happ hz ⊢
  rw [← hn] at happ hz ⊢
  exact CallR.eval (m1 := { h := m.h ++ [.cells (rs I) ty_uint8 0], wr := [] }) rfl rfl prog_slices_Clone_Suint8_uint8 rfl ⟨0, fun k _ => by simp [a_slices_Clone_Suint8_uint8, allR, repl, happ, hz]⟩ (by simp) (by simp)
section
variable {d : Div} {a0 a1 n0 n1 p q : RV}
theorem wi_ok (hs : DivS d a0 a1 n0 n1 p q) (hr : rightB d = true) (h0 : 0 ≤ d.rule) (m : Mem) {D R : List RV} (o : Int) (hR : R = lookC d (divC d a0 a1 n0 n1 p q)) : (lpW d m.h.length D R o).Ok m where
  len := fun _ _ => rfl
  al := fun s t => by
    show (wiStep d o s t).1.isNone = (wiStep d o s t).2
    unfold wiStep
    cases s with
    | some u => rfl
    | none => simp only; split <;> rfl
  rk := fun s t => Nat.zero_le _
  jb := by show 2 < 5; omega
  body := by
    intro s v t Hb W X hal hrk ht htk hG hX1 hX2 hT
    have hs0 : s = none := by
      have : s.isNone = true := hal
      cases s with
      | none => rfl
      | some u => cases this
    subst hs0
    have hn := right_n hr
    have htk : Hb.take (m.h.length + 7) = (lpW d m.h.length D R o).low m none v .busy none := htk
    have hG : GS Hb (m.h.length + 7) ty_uint8 1 [] 0 v := hG
    have hX1 : m.h.length + 7 ≤ X := hX1
    have lR : R.length = 91 := by rw [hR]; exact lookC_len
    have tR : List.take 91 (rs R) = rs R := List.take_of_length_le (by rw [rs_len]; omega)
    have l40 : (ints .u8 t).length = 40 := by rw [ints_len]; exact ht.1
    have t40 : List.take 40 (rs (ints .u8 t)) = rs (ints .u8 t) := List.take_of_length_le (by rw [rs_len]; omega)
    have gO : Hb[m.h.length + 1]? = some (.cells [u8 o] ty_uint8 0) := pre_get htk (by omega) rfl
    have gW : Hb[m.h.length + 2]? = some (.cells [.r .nil] ty_Suint8 0) := pre_get htk (by omega) rfl
    have gE : Hb[m.h.length + 3]? = some (.cells [i64 0] ty_api_Errno 0) := pre_get htk (by omega) rfl
    have gX : Hb[m.h.length + 4]? = some (.cells (rs R) ty_tally_looked 0) := pre_get htk (by omega) rfl
    have hlen : m.h.length + 7 ≤ Hb.length := by
      have := congrArg List.length htk
      rw [List.length_take] at this
      have h2 : ((lpW d m.h.length D R o).low m none v .busy none).length = m.h.length + 7 := by simp [Lp.low, lpW]
      omega
    have hnl := nums_le hr t
    obtain ⟨c1, k1⟩ := numbers_spec hs hr ht.1 { h := Hb }
    obtain ⟨c2, k2⟩ := outcome_spec (a0 := a0) (a1 := a1) (n0 := n0) (n1 := n1) (p := p) (q := q) hr h0 (numsL d t) hnl.1 hnl.2 { h := Hb }
    rw [← hR] at k1 k2
    have hRn : List.take 1 (rs R) = [i64 d.n] := by rw [hR]; exact lookC_n
    obtain ⟨o', ho'⟩ : ∃ o', o' = outcomeI d (numsL d t) := ⟨_, rfl⟩
    obtain ⟨n, hnn⟩ : ∃ n, n = numsL d t := ⟨_, rfl⟩
    have hstep : (lpW d m.h.length D R o).step none t = if o' = o then (some (t.take d.n.toNat), false) else (none, true) := by rw [ho']; rfl
    obtain ⟨u, hu⟩ : ∃ u, u = t.take d.n.toNat := ⟨_, rfl⟩
    have hul : u.length = d.n.toNat := by rw [hu, List.length_take, ht.1]; omega
    obtain ⟨c3, k3⟩ := CloneU_spec (l := u) (m := { h := Hb, wr := W }) (cap := some 40) hT (by rw [hul]; exact hu) (by omega) (by rw [ht.1]; omega) ht.1
    rw [hul] at k3
    obtain ⟨I, hI⟩ : ∃ I, I = ints .u8 t := ⟨_, rfl⟩
    rw [← hI] at k1 hT l40 t40 ⊢
    rw [← ho'] at k2
    rw [← hnn] at k1 k2
    simp only [nmR] at k2
    rw [hstep]
    have hwa : apartL (wrAll Hb.length { h := Hb }) [m.h.length + 1] = true := by rw [wrAll_self]; rfl
    by_cases e : o' = o
    · rw [if_pos e]
      have e1 : (o' == o) = true := by simpa using e
      have b1 : (0 ≤ d.n) = True := eq_true (by omega)
      have b2 : (d.n.toNat ≤ 40) = True := eq_true (by omega)
      obtain ⟨U, hU⟩ : ∃ U, U = ints .u8 u := ⟨_, rfl⟩
      rw [← hU] at k3
      obtain ⟨H2, hH2⟩ : ∃ H2, H2 = Hb.set (m.h.length + 2) (.cells [.r (.sl U d.n.toNat none)] ty_Suint8 0) := ⟨_, rfl⟩
      have gE2 : H2[m.h.length + 3]? = some (.cells [i64 0] ty_api_Errno 0) := by rw [hH2, List.getElem?_set_ne (by omega)]; exact gE
      have hsame : H2.set (m.h.length + 3) (.cells [i64 0] ty_api_Errno 0) = H2 := set_same gE2
      have hor : (0 < d.n.toNat) = True := eq_true (by omega)
      have hs2 : ∃ s2, Den C (lpW d m.h.length D R o).bd { env := ((lpW d m.h.length D R o).tt, .own X 0 0) :: ((lpW d m.h.length D R o).pt, .r (.agg I)) :: (lpW d m.h.length D R o).E, m := { h := Hb, wr := W }, round := some (m.h.length + 5 + 1) } .ret s2 ∧ s2.m.h = H2 ∧ s2.m.wr = (m.h.length + 3) :: (m.h.length + 2) :: W := by
        refine ⟨_, .ofN ⟨c1 + c2 + c3, fun k hk => by
          simp [lpW, b_tally_Witness_0, dn_drawF, denF, denFI, stepF, slotFree, slotOf, foot, avIdx, pairsOk, apartL_nil, wrAll_self, gX, gO, gW, gE, hT, rs_len, lR, tR, l40, t40, k1 k (by omega), k2 k (by omega), e1, hRn, bound, b1, b2, hor, k3 k (by omega), ← hH2, gE2, hsame]
          rfl⟩, rfl, rfl⟩
      obtain ⟨s2, k4, m4, w4⟩ := hs2
      refine ⟨s2, .ret, v, k4, .inr ⟨rfl, rfl⟩, ?_, ?_, ?_, ?_, ?_, fun j hj => .inl hj, .inl rfl⟩
      · rw [m4]
        show H2.take (m.h.length + 7) = _
        rw [hH2, List.take_set, htk]
        unfold Lp.low
        rw [List.append_assoc, List.append_assoc, set_mid]
        have : wiR (some (t.take d.n.toNat)) = .sl U d.n.toNat none := by rw [← hu, hU]; unfold wiR; simp only [hul]
        simp only [lpW, this]; rfl
      · rw [m4]
        exact hG.same fun j hj => by
          have := (hG.idx j hj).1
          rw [hH2, List.getElem?_set_ne (by omega)]
      · intro j h1 h2 h3
        have h1 : m.h.length + 7 ≤ j := h1
        rw [m4, hH2, List.getElem?_set_ne (by omega)]
      · rw [m4, hH2, List.length_set]; exact Nat.le_refl _
      · intro x hx
        rw [w4] at hx
        simp only [List.mem_cons] at hx
        rcases hx with rfl | rfl | hx
        · exact .inr (by omega)
        · exact .inr (by omega)
        · exact .inl hx
    · rw [if_neg e]
      have e1 : (o' == o) = false := by simpa using e
      have hs2 : ∃ s2, Den C (lpW d m.h.length D R o).bd { env := ((lpW d m.h.length D R o).tt, .own X 0 0) :: ((lpW d m.h.length D R o).pt, .r (.agg I)) :: (lpW d m.h.length D R o).E, m := { h := Hb, wr := W }, round := some (m.h.length + 5 + 1) } .norm s2 ∧ s2.m = { h := Hb, wr := W } := by
        refine ⟨_, .ofN ⟨c1 + c2, fun k hk => by
          simp [lpW, b_tally_Witness_0, dn_drawF, denF, denFI, stepF, slotFree, slotOf, foot, avIdx, pairsOk, apartL_nil, wrAll_self, gX, gO, gW, gE, hT, rs_len, lR, tR, l40, t40, k1 k (by omega), k2 k (by omega), e1]
          rfl⟩, rfl⟩
      obtain ⟨s2, k4, m4⟩ := hs2
      refine ⟨s2, .norm, v, k4, .inl ⟨rfl, rfl⟩, ?_⟩
      rw [m4]
      exact ⟨htk, hG, fun _ _ _ _ => rfl, Nat.le_refl _, fun x hx => .inl hx, fun j hj => .inl hj, .inl rfl⟩
end
end Go.AM.T
/- What the functions compute (own work). -/
namespace Go.AM.T
open Go Go.AM
attribute [local simp] so_mov so_pick so_alloc so_box so_build so_slit so_load so_store so_nilc so_bin so_beq so_eqs so_eqn so_eqnl so_not so_conv so_s2b so_mkfn so_slcA so_padd so_fld so_idxA so_idxV so_idxT so_look so_mupd so_mkmap so_mksl so_ext so_app so_lenT so_lenM so_min so_max so_cpy so_clr so_mkif so_tass so_lenS so_idxS so_slc
attribute [local simp] dn_skip dn_label dn_ret dn_exit dn_scope dn_keep dn_reg dn_draw0 noSlots denE denEI stepE  sd_mov sd_pick sd_build sd_load sd_store sd_nilc sd_bin sd_beq sd_eqs sd_eqn sd_eqnl sd_not sd_conv sd_s2b sd_mkfn sd_slc sd_slcA sd_padd sd_fld sd_idxS sd_idxA sd_idxV sd_idxT sd_look sd_mupd sd_ext sd_app sd_lenS sd_lenT sd_lenM sd_min sd_max sd_mkif sd_tass sd_call sd_slit dn_seq dn_cond dn_block dn_loop kn_call denIs denI denOp wants ev eget putD binL enumFrom AV.bool? AV.int? ekeep evs evp runV fin runDefs resAll resOf tupOf unit AV.cells okV ok1 Value.oneCell' fill setN rcells rs_nil rs_cons load_own load_cons mkAgg_rs storeN jmpOut
attribute [local simp] dvL dv1t dvAt mkAgg2 dv0 dv1 dv2 dv3 dv4 dv5 dv6 dv7 dv8 dv9 dv10 dvA dvN dvAll C_fz fzr
def wiF (d : Div) (o : Int) : Option (List Int) := (rtOf d).find? fun u => outcomeI d (numsL d u) == o
theorem wi_stop (d : Div) (o : Int) (u : List Int) : ∀ l : List (List Int), (foldS (wiStep d o) (some u) l).1 = some u
  | [] => rfl
  | t :: l => rfl
theorem wi_fold {d : Div} (o : Int) : ∀ us : List (List Int), (∀ u ∈ us, u.length = d.n.toNat) → (foldS (wiStep d o) none (us.map pad)).1 = us.find? fun u => outcomeI d (numsL d u) == o
  | [], _ => rfl
  | u :: us, h => by
    rw [List.map_cons, foldS_cons, List.find?_cons]
    have hp : (pad u).take d.n.toNat = u := by
      unfold pad; rw [List.take_append_of_le_length (by rw [h u (by simp)]; exact Nat.le_refl _), List.take_of_length_le (by rw [h u (by simp)]; exact Nat.le_refl _)]
    have hst : wiStep d o none (pad u) = if outcomeI d (numsL d u) = o then (some u, false) else (none, true) := by
      unfold wiStep; simp only [nums_pad, hp]
    rw [hst]
    by_cases e : outcomeI d (numsL d u) = o
    · rw [if_pos e]; simp [e]
    · rw [if_neg e]
      have hsh : (foldS (wiStep d o) none (us.map pad)).1 = us.find? fun u => outcomeI d (numsL d u) == o := wi_fold o us fun x hx => h x (by simp [hx])
      have he : (outcomeI d (numsL d u) == o) = false := by simpa using e
      rw [he]
      exact hsh
theorem wi_F {d : Div} (h : d.n ≤ 40) (o : Int) : (foldS (wiStep d o) none (truthsOf d)).1 = wiF d o := by
  rw [truthsOf_rt h]
  exact wi_fold o _ fun u hu => (rt_len u hu)
where rt_len {d : Div} : ∀ u ∈ rtOf d, u.length = d.n.toNat := fun u hu => by have := rtF_len _ _ _ hu; simpa using this
def askI (d : Div) (o : Int) : Int := if rightB d = true then (if 2 < o then 2 else openI d) else 1
def witE (d : Div) (o : Int) : Int := if askI d o = 0 then (if (wiF d o).isSome then 0 else 7) else askI d o
def witR (d : Div) (o : Int) : RV := if askI d o = 0 then wiR (wiF d o) else .nil
section
variable {d : Div} {a0 a1 n0 n1 p q : RV}
theorem Witness_spec (hs : DivS d a0 a1 n0 n1 p q) (hb : Small d) (hru : 0 ≤ d.rule ∧ d.rule ≤ 255) (o : Int) (m : Mem) : CallR C (fnv fn_tally_Witness) [.r (.agg (divC d a0 a1 n0 n1 p q)), u8 o] m
    (.ret (.tup [.r (witR d o), i64 (witE d o)]) m) := by
  obtain ⟨R, hRR⟩ : ∃ R, R = (if openI d = 0 then lookC d (divC d a0 a1 n0 n1 p q) else z_tally_looked) := ⟨_, rfl⟩
  have lR : R.length = 91 := by rw [hRR]; split <;> rfl
  have hRt : List.take 91 (rs R) = rs R := List.take_of_length_le (by rw [rs_len]; omega)
  obtain ⟨Z, hZ⟩ : ∃ Z, Z = z_tally_looked := ⟨_, rfl⟩
  have hZl : Z.length = 91 := by rw [hZ]; rfl
  have hZd : List.drop 91 (rs Z) = [] := List.drop_eq_nil_of_le (by rw [rs_len]; omega)
  have hd11 : (divC d a0 a1 n0 n1 p q).length = 11 := rfl
  obtain ⟨H0, hH0⟩ : ∃ H0, H0 = m.h ++ [.cells (rs (divC d a0 a1 n0 n1 p q)) ty_tally_Division 0, .cells [u8 o] ty_uint8 0, .cells [.r .nil] ty_Suint8 0, .cells [i64 0] ty_api_Errno 0] := ⟨_, rfl⟩
  obtain ⟨c0, k0⟩ := valid_spec hs hb hru { h := H0 }
  obtain ⟨c1, k1⟩ := topen_spec hs hb hru { h := H0 }
  rw [← hRR] at k1
  rw [valid_right] at k0
  have b0 : H0[m.h.length]? = some (.cells (rs (divC d a0 a1 n0 n1 p q)) ty_tally_Division 0) := by simp [hH0]
  have b1 : H0[m.h.length + 1]? = some (.cells [u8 o] ty_uint8 0) := by rw [hH0, get_midk]; rfl
  have b2 : H0[m.h.length + 2]? = some (.cells [.r .nil] ty_Suint8 0) := by rw [hH0, get_midk]; rfl
  have b3 : H0[m.h.length + 3]? = some (.cells [i64 0] ty_api_Errno 0) := by rw [hH0, get_midk]; rfl
  have hl0 : H0.length = m.h.length + 4 := by simp [hH0]
  have ht0 : H0.take m.h.length = m.h := by simp [hH0]
  have hs2 : H0.set (m.h.length + 2) (.cells [.r .nil] ty_Suint8 0) = H0 := set_same b2
  obtain ⟨D, hD⟩ : ∃ D, D = divC d a0 a1 n0 n1 p q := ⟨_, rfl⟩
  have fin : ∀ (e : Int) (c : Nat) (W : List Nat), (∀ x ∈ W, m.h.length ≤ x) → (∀ k, c ≤ k → runV (Kn C k) C.fz a_tally_Witness [.r (.agg (divC d a0 a1 n0 n1 p q)), u8 o] m.h = some (.tup [.r .nil, i64 e], { h := H0.set (m.h.length + 3) (.cells [i64 e] ty_api_Errno 0), wr := W })) →
      CallR C (fnv fn_tally_Witness) [.r (.agg (divC d a0 a1 n0 n1 p q)), u8 o] m (.ret (.tup [.r .nil, i64 e]) m) := fun e c W hW h =>
    CallR.eval rfl rfl prog_tally_Witness rfl ⟨c, fun k hk => by simpa using h k hk⟩ (by rw [List.take_set_of_le (by omega)]; exact ht0) hW
  have se : ∀ (e : Int), (H0.set (m.h.length + 3) (.cells [i64 e] ty_api_Errno 0))[m.h.length + 3]? = some (.cells [i64 e] ty_api_Errno 0) ∧ (H0.set (m.h.length + 3) (.cells [i64 e] ty_api_Errno 0))[m.h.length + 2]? = some (.cells [.r .nil] ty_Suint8 0) := fun e =>
    ⟨List.getElem?_set_self (by omega), by rw [List.getElem?_set_ne (by omega)]; exact b2⟩
  cases hr : rightB d with
  | false =>
    have e1 : askI d o = 1 := by simp [askI, hr]
    have e2 : witE d o = 1 := by simp [witE, e1]
    have e3 : witR d o = .nil := by simp [witR, e1]
    rw [hr] at k0
    rw [e2, e3]
    have s1 := (se 1).1
    have s2 := (se 1).2
    refine fin 1 c0 [m.h.length + 3, m.h.length + 2] (by simp) fun k hk => ?_
    rw [← hD] at hH0 k0 b0 hd11 ⊢
    have hDt : List.take 11 (rs D) = rs D := List.take_of_length_le (by rw [rs_len]; omega)
    simp [a_tally_Witness, hd11, hDt, rs_len, ← hH0, b0, b1, b2, b3, k0 k hk, hs2, s1, s2, fz, fzs]
  | true =>
    rw [hr] at k0
    by_cases ho2 : 2 < o
    · have e1 : askI d o = 2 := by simp [askI, hr, ho2]
      have e2 : witE d o = 2 := by simp [witE, e1]
      have e3 : witR d o = .nil := by simp [witR, e1]
      rw [e2, e3]
      have s1 := (se 2).1
      have s2 := (se 2).2
      have ho2' : (2 < o) = True := eq_true ho2
      refine fin 2 c0 [m.h.length + 3, m.h.length + 2] (by simp) fun k hk => ?_
      rw [← hD] at hH0 k0 b0 hd11 ⊢
      have hDt : List.take 11 (rs D) = rs D := List.take_of_length_le (by rw [rs_len]; omega)
      simp [a_tally_Witness, hd11, hDt, rs_len, ← hH0, b0, b1, b2, b3, k0 k hk, ho2', hs2, s1, s2, fz, fzs]
    · have ho2' : (2 < o) = False := eq_false ho2
      have e1 : askI d o = openI d := by simp [askI, hr, ho2]
      obtain ⟨H1, hH1⟩ : ∃ H1, H1 = H0 ++ [.cells (rs R) ty_tally_looked 0] := ⟨_, rfl⟩
      have hget : ∀ b : Blk, (H0 ++ [b])[H0.length]? = some b := fun b => by simp
      have hset : ∀ b b' : Blk, (H0 ++ [b]).set H0.length b' = H0 ++ [b'] := fun b b' => by simp
      have d1 : H1[m.h.length + 1]? = some (.cells [u8 o] ty_uint8 0) := by rw [hH1, List.getElem?_append_left (by omega)]; exact b1
      have d2 : H1[m.h.length + 2]? = some (.cells [.r .nil] ty_Suint8 0) := by rw [hH1, List.getElem?_append_left (by omega)]; exact b2
      have d3 : H1[m.h.length + 3]? = some (.cells [i64 0] ty_api_Errno 0) := by rw [hH1, List.getElem?_append_left (by omega)]; exact b3
      have d4 : H1[m.h.length + 4]? = some (.cells (rs R) ty_tally_looked 0) := by rw [hH1, ← hl0]; simp
      have hl1 : H1.length = m.h.length + 5 := by simp [hH1, hl0]
      have hs21 : H1.set (m.h.length + 2) (.cells [.r .nil] ty_Suint8 0) = H1 := set_same d2
      by_cases e : openI d = 0
      · rw [e] at e1
        rw [if_pos e] at hRR
        rw [e] at k1
        have hn := right_n hr
        have hok := wi_ok hs hr hru.1 m (D := D) o hRR
        have hcnt := truthsOf_count e
        obtain ⟨H', W', v, ⟨c2, k2⟩, htk, hG, hw⟩ := Lp.range hok (by show 8 ≠ 26; omega) hn (R := R) (fun m => by rw [hRR]; exact lookC_p0 m) (fun m k h1 h2 => by rw [hRR]; exact lookC_pm m k h1 h2) (q := 25) rfl none rfl (by show 0 + (truthsOf d).length ≤ 10000; omega) rfl rfl [m.h.length + 4]
        have hF : (foldS (lpW d m.h.length D R o).step none (truthsOf d)).1 = wiF d o := wi_F hn.2 o
        rw [hF] at htk hG k2
        have hPm : m.h ++ (lpW d m.h.length D R o).P none (.r .nil) = H1 := by
          rw [hH1, hH0, ← hD]
          simp [lpW, wiR]
        rw [hPm] at k2
        obtain ⟨E, hE⟩ : ∃ E : Env, E = [(3, .own (m.h.length + 1) 0 0), (4, .own (m.h.length + 2) 0 0), (5, .own (m.h.length + 3) 0 0), (6, .own (m.h.length + 4) 0 0), (25, .r (.fn fn_tally_looked_truths_1 [] [.ptr R]))] := ⟨_, rfl⟩
        have k2 : ∀ k, c2 ≤ k → den (Kn C k) (.rangeF (.t 25) [26] s_tally_Witness_0 b_tally_Witness_0) { env := [(3, .own (m.h.length + 1) 0 0), (4, .own (m.h.length + 2) 0 0), (5, .own (m.h.length + 3) 0 0), (6, .own (m.h.length + 4) 0 0), (25, .r (.fn fn_tally_looked_truths_1 [] [.ptr R]))], m := { h := H1, wr := [m.h.length + 4] } } = some (if (wiF d o).isNone = true then .norm else .ret, { env := [(3, .own (m.h.length + 1) 0 0), (4, .own (m.h.length + 2) 0 0), (5, .own (m.h.length + 3) 0 0), (6, .own (m.h.length + 4) 0 0), (25, .r (.fn fn_tally_looked_truths_1 [] [.ptr R]))], m := { h := H', wr := W' }, defs := [.dfr (m.h.length + 5)] }) := k2
        have htk : H'.take (m.h.length + 7) = m.h ++ [.cells (rs D) ty_tally_Division 0, .cells [u8 o] ty_uint8 0, .cells [.r (wiR (wiF d o))] ty_Suint8 0, .cells [i64 0] ty_api_Errno 0, .cells (rs R) ty_tally_looked 0] ++ [.dfr, .dead] := htk
        have hlt : ∀ j, j < 7 → m.h.length + j < H'.length := fun j hj => by
          have := congrArg List.length htk
          rw [List.length_take] at this
          simp at this; omega
        have g2 : H'[m.h.length + 2]? = some (.cells [.r (wiR (wiF d o))] ty_Suint8 0) := by rw [take_get htk (by omega), List.append_assoc, get_midk]; rfl
        have g3 : H'[m.h.length + 3]? = some (.cells [i64 0] ty_api_Errno 0) := by rw [take_get htk (by omega), List.append_assoc, get_midk]; rfl
        have g5 : H'[m.h.length + 5]? = some .dfr := by rw [take_get htk (by omega), List.append_assoc, get_midk]; rfl
        have ht : H'.take m.h.length = m.h := by
          have := congrArg (List.take m.h.length) htk
          rw [List.take_take, Nat.min_eq_left (by omega), List.append_assoc, List.take_left'] at this
          · exact this
          · rfl
        obtain ⟨c4, k4⟩ := truths_spec lR { h := H1, wr := [m.h.length + 4] }
        have hw' : ∀ x ∈ W', m.h.length ≤ x := fun x hx => by
          rcases hw x hx with h | h
          · simp at h; omega
          · exact h
        cases hF2 : wiF d o with
        | some u =>
          have e2 : witE d o = 0 := by simp [witE, e1, hF2]
          have e3 : witR d o = wiR (some u) := by simp [witR, e1, hF2]
          rw [hF2] at k2 g2
          rw [e2, e3]
          obtain ⟨U, hU⟩ : ∃ U, U = wiR (some u) := ⟨_, rfl⟩
          rw [← hU] at g2 ⊢
          obtain ⟨H4, hH4⟩ : ∃ H4, H4 = H'.set (m.h.length + 5) .dead := ⟨_, rfl⟩
          have i2 : H4[m.h.length + 2]? = some (.cells [.r U] ty_Suint8 0) := by rw [hH4, List.getElem?_set_ne (by omega)]; exact g2
          have i3 : H4[m.h.length + 3]? = some (.cells [i64 0] ty_api_Errno 0) := by rw [hH4, List.getElem?_set_ne (by omega)]; exact g3
          refine CallR.eval (m1 := { h := H4, wr := (m.h.length + 5) :: W' }) rfl rfl prog_tally_Witness rfl ⟨c0 + c1 + c2 + c4, fun k hk => ?_⟩ (by rw [hH4, List.take_set_of_le (by omega)]; exact ht) (by
            intro x hx
            rcases List.mem_cons.1 hx with rfl | hx
            · omega
            · exact hw' x hx)
          rw [← hD] at hH0 k0 k1 b0 hd11 ⊢
          have hDt : List.take 11 (rs D) = rs D := List.take_of_length_le (by rw [rs_len]; omega)
          simp [a_tally_Witness, hd11, hDt, rs_len, ← hH0, b0, b1, b2, b3, gq b0, gq b1, gq b2, gq b3, k0 k (by omega), ho2', k1 k (by omega), ← hZ, hZl, hZd, hl0, hget, hset, ← hH1, lR, hRt, d1, d2, d3, d4, k4 k (by omega), k2 k (by omega), g5, ← hH4, i2, i3, fz, fzs]
        | none =>
          have e2 : witE d o = 7 := by simp [witE, e1, hF2]
          have e3 : witR d o = .nil := by simp [witR, e1, hF2, wiR]
          rw [hF2] at k2 g2
          rw [e2, e3]
          have g2 : H'[m.h.length + 2]? = some (.cells [.r .nil] ty_Suint8 0) := g2
          have hsm : H'.set (m.h.length + 2) (.cells [.r .nil] ty_Suint8 0) = H' := set_same g2
          obtain ⟨H3, hH3⟩ : ∃ H3, H3 = H'.set (m.h.length + 3) (.cells [i64 7] ty_api_Errno 0) := ⟨_, rfl⟩
          have g35 : H3[m.h.length + 5]? = some .dfr := by rw [hH3, List.getElem?_set_ne (by omega)]; exact g5
          obtain ⟨H4, hH4⟩ : ∃ H4, H4 = H3.set (m.h.length + 5) .dead := ⟨_, rfl⟩
          have i2 : H4[m.h.length + 2]? = some (.cells [.r .nil] ty_Suint8 0) := by rw [hH4, List.getElem?_set_ne (by omega), hH3, List.getElem?_set_ne (by omega)]; exact g2
          have i3 : H4[m.h.length + 3]? = some (.cells [i64 7] ty_api_Errno 0) := by rw [hH4, List.getElem?_set_ne (by omega), hH3, List.getElem?_set_self (hlt 3 (by omega))]
          refine CallR.eval (m1 := { h := H4, wr := (m.h.length + 5) :: (m.h.length + 3) :: (m.h.length + 2) :: W' }) rfl rfl prog_tally_Witness rfl ⟨c0 + c1 + c2 + c4, fun k hk => ?_⟩ (by rw [hH4, List.take_set_of_le (by omega), hH3, List.take_set_of_le (by omega)]; exact ht) (by
            intro x hx
            simp only [List.mem_cons] at hx
            rcases hx with rfl | rfl | rfl | hx
            · omega
            · omega
            · omega
            · exact hw' x hx)
          rw [← hD] at hH0 k0 k1 b0 hd11 ⊢
          have hDt : List.take 11 (rs D) = rs D := List.take_of_length_le (by rw [rs_len]; omega)
          simp [a_tally_Witness, hd11, hDt, rs_len, ← hH0, b0, b1, b2, b3, gq b0, gq b1, gq b2, gq b3, k0 k (by omega), ho2', k1 k (by omega), ← hZ, hZl, hZd, hl0, hget, hset, ← hH1, lR, hRt, d1, d2, d3, d4, k4 k (by omega), k2 k (by omega), g2, g3, hsm, ← hH3, g35, ← hH4, i2, i3, fz, fzs]
      · have e2 : witE d o = openI d := by simp [witE, e1, e]
        have e3 : witR d o = .nil := by simp [witR, e1, e]
        rw [e2, e3]
        have e' : (openI d == 0) = false := by simpa using e
        obtain ⟨H3, hH3⟩ : ∃ H3, H3 = H1.set (m.h.length + 3) (.cells [i64 (openI d)] ty_api_Errno 0) := ⟨_, rfl⟩
        have i2 : H3[m.h.length + 2]? = some (.cells [.r .nil] ty_Suint8 0) := by rw [hH3, List.getElem?_set_ne (by omega)]; exact d2
        have i3 : H3[m.h.length + 3]? = some (.cells [i64 (openI d)] ty_api_Errno 0) := by rw [hH3, List.getElem?_set_self (by omega)]
        refine CallR.eval (m1 := { h := H3, wr := [m.h.length + 3, m.h.length + 2, m.h.length + 4] }) rfl rfl prog_tally_Witness rfl ⟨c0 + c1, fun k hk => ?_⟩ (by rw [hH3, List.take_set_of_le (by omega), hH1, List.take_append_of_le_length (by omega)]; exact ht0) (by simp)
        rw [← hD] at hH0 k0 k1 b0 hd11 ⊢
        have hDt : List.take 11 (rs D) = rs D := List.take_of_length_le (by rw [rs_len]; omega)
        simp [a_tally_Witness, hd11, hDt, rs_len, ← hH0, b0, b1, b2, b3, gq b0, gq b1, gq b2, gq b3, k0 k (by omega), ho2', k1 k (by omega), ← hZ, hZl, hZd, hl0, hget, hset, ← hH1, lR, hRt, d1, d2, d3, d4, e, e', hs21, ← hH3, i2, i3, fz, fzs]
end
end Go.AM.T
/- What the functions compute (own work). -/
namespace Go.AM.T
open Go Go.AM
attribute [local simp] so_mov so_pick so_alloc so_box so_build so_slit so_load so_store so_nilc so_bin so_beq so_eqs so_eqn so_eqnl so_not so_conv so_s2b so_mkfn so_slcA so_padd so_fld so_idxA so_idxV so_idxT so_look so_mupd so_mkmap so_mksl so_ext so_app so_lenT so_lenM so_min so_max so_cpy so_clr so_mkif so_tass so_lenS so_idxS so_slc
attribute [local simp] dn_skip dn_label dn_ret dn_exit dn_scope dn_keep dn_reg dn_draw0 noSlots denE denEI stepE  sd_mov sd_pick sd_build sd_load sd_store sd_nilc sd_bin sd_beq sd_eqs sd_eqn sd_eqnl sd_not sd_conv sd_s2b sd_mkfn sd_slc sd_slcA sd_padd sd_fld sd_idxS sd_idxA sd_idxV sd_idxT sd_look sd_mupd sd_ext sd_app sd_lenS sd_lenT sd_lenM sd_min sd_max sd_mkif sd_tass sd_call sd_slit dn_seq dn_cond dn_block dn_loop kn_call denIs denI denOp wants ev eget putD binL enumFrom AV.bool? AV.int? ekeep evs evp runV fin runDefs resAll resOf tupOf unit AV.cells okV ok1 Value.oneCell' fill setN rcells rs_nil rs_cons load_own load_cons mkAgg_rs storeN jmpOut
attribute [local simp] dvL dv1t dvAt mkAgg2 dv0 dv1 dv2 dv3 dv4 dv5 dv6 dv7 dv8 dv9 dv10 dvA dvN dvAll C_fz fzr
theorem has_u8 {x : RV} (h : Has (.int .u8) [x]) : ∃ n, x = .lit (.int .u8 n) ∧ (0 ≤ n ∧ n ≤ 255) := by
  obtain ⟨n, e, w⟩ := has_int h
  cases e
  have e1 : IntKind.min .u8 = 0 := by decide
  have e2 : IntKind.max .u8 = 255 := by decide
  exact ⟨n, rfl, by simpa [Lit.wf, e1, e2] using w⟩
theorem has_u32 {x : RV} (h : Has (.int .u32) [x]) : ∃ n, x = .lit (.int .u32 n) ∧ (0 ≤ n ∧ n ≤ 4294967295) := by
  obtain ⟨n, e, w⟩ := has_int h
  cases e
  have e1 : IntKind.min .u32 = 0 := by decide
  have e2 : IntKind.max .u32 = 4294967295 := by decide
  exact ⟨n, rfl, by simpa [Lit.wf, e1, e2] using w⟩
theorem has_bool {x : RV} (h : Has .bool [x]) : ∃ b, x = .lit (.bool b) := by
  simp only [Has] at h
  obtain ⟨b, e⟩ := h
  cases e
  exact ⟨b, rfl⟩
theorem has_Sint {x : RV} (h : Has (.sl (.int .i64)) [x]) : ∃ l, SlI l x ∧ l.length < 2 ^ 63 := by
  obtain ⟨v, l, e, s, hl⟩ := has_ints h
  cases e
  exact ⟨l, s, hl⟩
theorem parts_u8 : ∀ (n : Nat) (xs : List RV), Parts (Has (.int .u8)) n xs → ∃ l : List Int, xs = ints .u8 l ∧ l.length = n ∧ ∀ x ∈ l, 0 ≤ x ∧ x ≤ 255
  | 0, xs, h => ⟨[], by simp only [Parts] at h; rw [h]; rfl, rfl, by simp⟩
  | n + 1, xs, h => by
    obtain ⟨a, b, rfl, ⟨x, rfl, w⟩, h2⟩ := h
    obtain ⟨l, rfl, e, hl⟩ := parts_u8 n b h2
    have e1 : IntKind.min .u8 = 0 := by decide
    have e2 : IntKind.max .u8 = 255 := by decide
    refine ⟨x :: l, rfl, by simp [e], fun y hy => ?_⟩
    rcases List.mem_cons.1 hy with rfl | hy
    · simpa [Lit.wf, e1, e2] using w
    · exact hl y hy
theorem has_Su8 {x : RV} (h : Has (.sl (.int .u8)) [x]) : ∃ l, (Sl (ints .u8 l) l.length x ∧ ∀ y ∈ l, 0 ≤ y ∧ y ≤ 255) ∧ l.length < 2 ^ 63 := by
  unfold Has at h
  rcases h with e | ⟨cs, len, e, hm, h⟩
  · cases e
    exact ⟨[], ⟨Sl.nil, by simp⟩, by simp⟩
  · cases e
    obtain ⟨l, rfl, rfl, hl⟩ := parts_u8 _ _ h
    exact ⟨l, ⟨Sl.mk _ _ _, hl⟩, by have := maxLt; omega⟩
end Go.AM.T
/- What the functions compute (own work). -/
namespace Go.AM.T
open Go Go.AM
attribute [local simp] so_mov so_pick so_alloc so_box so_build so_slit so_load so_store so_nilc so_bin so_beq so_eqs so_eqn so_eqnl so_not so_conv so_s2b so_mkfn so_slcA so_padd so_fld so_idxA so_idxV so_idxT so_look so_mupd so_mkmap so_mksl so_ext so_app so_lenT so_lenM so_min so_max so_cpy so_clr so_mkif so_tass so_lenS so_idxS so_slc
attribute [local simp] dn_skip dn_label dn_ret dn_exit dn_scope dn_keep dn_reg dn_draw0 noSlots denE denEI stepE  sd_mov sd_pick sd_build sd_load sd_store sd_nilc sd_bin sd_beq sd_eqs sd_eqn sd_eqnl sd_not sd_conv sd_s2b sd_mkfn sd_slc sd_slcA sd_padd sd_fld sd_idxS sd_idxA sd_idxV sd_idxT sd_look sd_mupd sd_ext sd_app sd_lenS sd_lenT sd_lenM sd_min sd_max sd_mkif sd_tass sd_call sd_slit dn_seq dn_cond dn_block dn_loop kn_call denIs denI denOp wants ev eget putD binL enumFrom AV.bool? AV.int? ekeep evs evp runV fin runDefs resAll resOf tupOf unit AV.cells okV ok1 Value.oneCell' fill setN rcells rs_nil rs_cons load_own load_cons mkAgg_rs storeN jmpOut
attribute [local simp] dvL dv1t dvAt mkAgg2 dv0 dv1 dv2 dv3 dv4 dv5 dv6 dv7 dv8 dv9 dv10 dvA dvN dvAll C_fz fzr
/-- The same division, but that its members may have fewer votes. -/
structure SubD (e d : Div) : Prop where
  n : e.n = d.n
  pairs : e.pairs = d.pairs
  proxies : e.proxies = d.proxies
  rule : e.rule = d.rule
  need : e.need = d.need
  quorum : e.quorum = d.quorum
  tie : e.tie = d.tie
  may : ∀ x v, v ∈ may e x → v ∈ may d x
section
variable {e d : Div}
theorem SubD.nums (h : SubD e d) (t : List Int) : numsL e t = numsL d t := by
  have h1 : memStep e t = memStep d t := by funext n i; unfold memStep; rw [h.pairs]
  have h2 : proxStep e t = proxStep d t := by funext n x; unfold proxStep; rw [h.pairs]
  unfold numsL numsM
  rw [h1, h2, h.proxies, h.n]
theorem SubD.outcome (h : SubD e d) (n : Int × Int) : outcomeI e n = outcomeI d n := by
  unfold outcomeI carriedB
  rw [h.quorum, h.rule, h.need, h.tie]
theorem SubD.rt (h : SubD e d) : ∀ (r : Nat) (b u : List Int), u ∈ rtF e r b → u ∈ rtF d r b
  | 0, b, u, hu => hu
  | r + 1, b, u, hu => by
    unfold rtF at hu ⊢
    obtain ⟨v, hv, hu⟩ := List.mem_flatMap.1 hu
    exact List.mem_flatMap.2 ⟨v, h.may _ _ hv, h.rt r _ u hu⟩
theorem SubD.rtOf (h : SubD e d) {u : List Int} (hu : u ∈ rtOf e) : u ∈ T.rtOf d := by
  unfold T.rtOf at hu ⊢
  rw [h.n] at hu
  exact h.rt _ _ _ hu
theorem SubD.len (h : SubD e d) (x : Int) : (T.may e x).length ≤ (T.may d x).length := by
  rw [← may_filter e, ← may_filter d, ← List.countP_eq_length_filter, ← List.countP_eq_length_filter]
  refine List.countP_mono_left fun v _ hv => ?_
  have := h.may x v (by simpa using hv)
  simpa using this
theorem SubD.doubts (h : SubD e d) : (doubtsL e).length ≤ (doubtsL d).length := by
  unfold doubtsL
  rw [List.length_map, List.length_map, ← List.countP_eq_length_filter, ← List.countP_eq_length_filter, h.n]
  refine List.countP_mono_left fun i _ hi => ?_
  have := h.len i
  simp at hi ⊢
  omega
theorem SubD.open_ (h : SubD e d) (ho : openI d = 0) (hr : rightB e = true) : openI e = if (clashB e).isSome then 9 else 0 := by
  have hd := (openI0 ho).2.2
  have := h.doubts
  unfold openI faultI
  rw [if_pos hr]
  by_cases hs : (clashB e).isSome = true
  · rw [if_pos hs, if_neg (by decide)]
  · rw [if_neg hs, if_pos rfl, if_neg (by omega)]
theorem SubD.al (h : SubD e d) (hn : d.n ≤ 40) {o : Int} (ho : o ∈ alS e) : o ∈ alS d := by
  unfold alS at ho ⊢
  rw [List.mem_filter] at ho ⊢
  refine ⟨ho.1, ?_⟩
  have h2 := ho.2
  rw [alL_rt (by rw [h.n]; exact hn), List.any_eq_true] at h2
  obtain ⟨u, hu, hx⟩ := h2
  rw [alL_rt hn, List.any_eq_true]
  exact ⟨u, h.rtOf hu, by rw [← h.nums, ← h.outcome]; exact hx⟩
/-- The bounds are bounds, and some number is at them. -/
theorem lw_le : ∀ (l : List (Int × Int)) (s : (Int × Int) × (Int × Int)),
    ((l.foldl lwStep s).1.1 ≤ s.1.1 ∧ s.1.2 ≤ (l.foldl lwStep s).1.2 ∧ (l.foldl lwStep s).2.1 ≤ s.2.1 ∧ s.2.2 ≤ (l.foldl lwStep s).2.2) ∧
    ∀ n ∈ l, (l.foldl lwStep s).1.1 ≤ n.1 ∧ n.1 ≤ (l.foldl lwStep s).1.2 ∧ (l.foldl lwStep s).2.1 ≤ n.2 ∧ n.2 ≤ (l.foldl lwStep s).2.2
  | [], s => by simp
  | n :: l, s => by
    have ih := lw_le l (lwStep s n)
    have h1 : (lwStep s n).1.1 ≤ s.1.1 ∧ s.1.2 ≤ (lwStep s n).1.2 ∧ (lwStep s n).2.1 ≤ s.2.1 ∧ s.2.2 ≤ (lwStep s n).2.2 ∧ (lwStep s n).1.1 ≤ n.1 ∧ n.1 ≤ (lwStep s n).1.2 ∧ (lwStep s n).2.1 ≤ n.2 ∧ n.2 ≤ (lwStep s n).2.2 := by
      unfold lwStep mn mx
      refine ⟨?_, ?_, ?_, ?_, ?_, ?_, ?_, ?_⟩ <;> simp only <;> split <;> omega
    rw [List.foldl_cons]
    refine ⟨by omega, fun x hx => ?_⟩
    rcases List.mem_cons.1 hx with rfl | hx
    · omega
    · exact ih.2 x hx
theorem lw_at : ∀ (l : List (Int × Int)) (s : (Int × Int) × (Int × Int)),
    ((l.foldl lwStep s).1.1 = s.1.1 ∨ ∃ n ∈ l, (l.foldl lwStep s).1.1 = n.1) ∧ ((l.foldl lwStep s).1.2 = s.1.2 ∨ ∃ n ∈ l, (l.foldl lwStep s).1.2 = n.1) ∧
    ((l.foldl lwStep s).2.1 = s.2.1 ∨ ∃ n ∈ l, (l.foldl lwStep s).2.1 = n.2) ∧ ((l.foldl lwStep s).2.2 = s.2.2 ∨ ∃ n ∈ l, (l.foldl lwStep s).2.2 = n.2)
  | [], s => by simp
  | n :: l, s => by
    have ih := lw_at l (lwStep s n)
    rw [List.foldl_cons]
    have h1 : ((lwStep s n).1.1 = s.1.1 ∨ (lwStep s n).1.1 = n.1) ∧ ((lwStep s n).1.2 = s.1.2 ∨ (lwStep s n).1.2 = n.1) ∧ ((lwStep s n).2.1 = s.2.1 ∨ (lwStep s n).2.1 = n.2) ∧ ((lwStep s n).2.2 = s.2.2 ∨ (lwStep s n).2.2 = n.2) := by
      unfold lwStep mn mx
      refine ⟨?_, ?_, ?_, ?_⟩ <;> simp only <;> split <;> simp
    obtain ⟨i1, i2, i3, i4⟩ := ih
    obtain ⟨j1, j2, j3, j4⟩ := h1
    refine ⟨?_, ?_, ?_, ?_⟩
    · rcases i1 with i | ⟨x, hx, i⟩
      · rcases j1 with j | j
        · exact .inl (i.trans j)
        · exact .inr ⟨n, by simp, i.trans j⟩
      · exact .inr ⟨x, by simp [hx], i⟩
    · rcases i2 with i | ⟨x, hx, i⟩
      · rcases j2 with j | j
        · exact .inl (i.trans j)
        · exact .inr ⟨n, by simp, i.trans j⟩
      · exact .inr ⟨x, by simp [hx], i⟩
    · rcases i3 with i | ⟨x, hx, i⟩
      · rcases j3 with j | j
        · exact .inl (i.trans j)
        · exact .inr ⟨n, by simp, i.trans j⟩
      · exact .inr ⟨x, by simp [hx], i⟩
    · rcases i4 with i | ⟨x, hx, i⟩
      · rcases j4 with j | j
        · exact .inl (i.trans j)
        · exact .inr ⟨n, by simp, i.trans j⟩
      · exact .inr ⟨x, by simp [hx], i⟩
/-- All numbers are in the bounds. -/
theorem bn_in (ho : openI d = 0) {u : List Int} (hu : u ∈ T.rtOf d) : (bnL d).a.1 ≤ (numsL d u).1 ∧ (numsL d u).1 ≤ (bnL d).a.2 ∧ (bnL d).b.1 ≤ (numsL d u).2 ∧ (numsL d u).2 ≤ (bnL d).b.2 := by
  obtain ⟨h1, h2⟩ := bnL_lw ho
  rw [h1, h2]
  have hm : numsL d u ∈ (T.rtOf d).map (numsL d) := List.mem_map_of_mem hu
  cases hl : (T.rtOf d).map (numsL d) with
  | nil => rw [hl] at hm; cases hm
  | cons n l =>
    rw [hl] at hm
    have := lw_le l (lw0 n)
    unfold lwL
    rcases List.mem_cons.1 hm with h | h
    · rw [h]; simp only [lw0] at this ⊢; omega
    · exact this.2 _ h
theorem bn_at (ho : openI d = 0) : (∃ u ∈ T.rtOf d, (bnL d).a.1 = (numsL d u).1) ∧ (∃ u ∈ T.rtOf d, (bnL d).a.2 = (numsL d u).1) ∧ (∃ u ∈ T.rtOf d, (bnL d).b.1 = (numsL d u).2) ∧ (∃ u ∈ T.rtOf d, (bnL d).b.2 = (numsL d u).2) := by
  obtain ⟨h1, h2⟩ := bnL_lw ho
  have hne := rtOf_ne ho
  rw [h1, h2]
  cases hr : T.rtOf d with
  | nil => exact absurd hr hne
  | cons u us =>
    rw [List.map_cons]
    unfold lwL
    obtain ⟨i1, i2, i3, i4⟩ := lw_at (us.map (numsL d)) (lw0 (numsL d u))
    refine ⟨?_, ?_, ?_, ?_⟩
    · rcases i1 with i | ⟨x, hx, i⟩
      · exact ⟨u, by simp, i⟩
      · obtain ⟨w, hw, rfl⟩ := List.mem_map.1 hx
        exact ⟨w, by simp [hw], i⟩
    · rcases i2 with i | ⟨x, hx, i⟩
      · exact ⟨u, by simp, i⟩
      · obtain ⟨w, hw, rfl⟩ := List.mem_map.1 hx
        exact ⟨w, by simp [hw], i⟩
    · rcases i3 with i | ⟨x, hx, i⟩
      · exact ⟨u, by simp, i⟩
      · obtain ⟨w, hw, rfl⟩ := List.mem_map.1 hx
        exact ⟨w, by simp [hw], i⟩
    · rcases i4 with i | ⟨x, hx, i⟩
      · exact ⟨u, by simp, i⟩
      · obtain ⟨w, hw, rfl⟩ := List.mem_map.1 hx
        exact ⟨w, by simp [hw], i⟩
theorem SubD.bn (h : SubD e d) (ho : openI d = 0) (ho' : openI e = 0) : (bnL d).a.1 ≤ (bnL e).a.1 ∧ (bnL e).a.2 ≤ (bnL d).a.2 ∧ (bnL d).b.1 ≤ (bnL e).b.1 ∧ (bnL e).b.2 ≤ (bnL d).b.2 := by
  obtain ⟨⟨u1, m1, e1⟩, ⟨u2, m2, e2⟩, ⟨u3, m3, e3⟩, ⟨u4, m4, e4⟩⟩ := bn_at ho'
  rw [e1, e2, e3, e4, h.nums, h.nums, h.nums, h.nums]
  have b1 := bn_in ho (h.rtOf m1)
  have b2 := bn_in ho (h.rtOf m2)
  have b3 := bn_in ho (h.rtOf m3)
  have b4 := bn_in ho (h.rtOf m4)
  omega
end
end Go.AM.T
/- What the functions compute (own work). -/
namespace Go.AM.T
open Go Go.AM
attribute [local simp] so_mov so_pick so_alloc so_box so_build so_slit so_load so_store so_nilc so_bin so_beq so_eqs so_eqn so_eqnl so_not so_conv so_s2b so_mkfn so_slcA so_padd so_fld so_idxA so_idxV so_idxT so_look so_mupd so_mkmap so_mksl so_ext so_app so_lenT so_lenM so_min so_max so_cpy so_clr so_mkif so_tass so_lenS so_idxS so_slc
attribute [local simp] dn_skip dn_label dn_ret dn_exit dn_scope dn_keep dn_reg dn_draw0 noSlots denE denEI stepE  sd_mov sd_pick sd_build sd_load sd_store sd_nilc sd_bin sd_beq sd_eqs sd_eqn sd_eqnl sd_not sd_conv sd_s2b sd_mkfn sd_slc sd_slcA sd_padd sd_fld sd_idxS sd_idxA sd_idxV sd_idxT sd_look sd_mupd sd_ext sd_app sd_lenS sd_lenT sd_lenM sd_min sd_max sd_mkif sd_tass sd_call sd_slit dn_seq dn_cond dn_block dn_loop kn_call denIs denI denOp wants ev eget putD binL enumFrom AV.bool? AV.int? ekeep evs evp runV fin runDefs resAll resOf tupOf unit AV.cells okV ok1 Value.oneCell' fill setN rcells rs_nil rs_cons load_own load_cons mkAgg_rs storeN jmpOut
attribute [local simp] dvL dv1t dvAt mkAgg2 dv0 dv1 dv2 dv3 dv4 dv5 dv6 dv7 dv8 dv9 dv10 dvA dvN dvAll C_fz fzr

theorem IF_u8_spec {lv F : AV} {n : Nat} {m : Mem} {e : Nat → AV} {p : Nat → Bool} (hn : n < 2 ^ 63) (hE : Els lv n 1 1 false m.h e) (hp : ∀ i, i < n → CallR C F [e i] { h := m.h } (.ret (bo (p i)) { h := m.h })) :
    CallR C (fnv fn_slices_IndexFunc_Suint8_uint8) [lv, F] m (.ret (i64 (idxOf n p)) m) := by
  have key := Loop.run (C := C) (c := l_slices_IndexFunc_Suint8_uint8_0) (live := [0, 1, 7, 8]) (fun k s => ∃ i : Nat, i + k = n ∧ At1 [0, 1, 7, 8] [(0, lv), (1, F), (7, i64 n), (8, i64 i)] { h := m.h } s ∧ ∀ j, j < i → p j = false)
    (fun o s => s.m = { h := m.h } ∧ s.defs = [] ∧ ((o = .ret ∧ ∃ i : Nat, eget s.env 4 = i64 i ∧ (List.range n).find? p = some i) ∨ (o = .exit 0 ∧ (List.range n).find? p = none))) (by
    rintro k s ⟨i, hik, ⟨he, hm, hd, hr⟩, hx⟩
    rw [he]
    cases k with
    | zero =>
      have e1 : ((i : Int) < (n : Int)) = False := eq_false (by omega)
      exact ⟨.exit 0, _, .of fun K => by simp [l_slices_IndexFunc_Suint8_uint8_0, e1]; rfl, .inr ⟨by simp, by simp [hm], by simp [hd], .inr ⟨rfl, find_none_of fun j hj => hx j (by omega)⟩⟩⟩
    | succ k =>
      have e1 : ((i : Int) < (n : Int)) = True := eq_true (by omega)
      have w1 : IntKind.wrap .i64 ((i : Int) + 1) = i + 1 := by rw [w64] <;> omega
      obtain ⟨a, ha, hl⟩ := hE.el i (by omega)
      have hl := hl []
      obtain ⟨c1, k1⟩ := hp i (by omega)
      cases hq : p i with
      | true =>
        rw [hq] at k1
        exact ⟨.ret, _, .ofN ⟨c1, fun q hq => by simp [l_slices_IndexFunc_Suint8_uint8_0, e1, ha, hm, hl, k1 q hq]; rfl⟩, .inr ⟨by simp, by simp, by simp [hd], .inl ⟨rfl, i, by simp, find_some_of (by omega) hx hq⟩⟩⟩
      | false =>
        rw [hq] at k1
        refine ⟨.norm, _, .ofN ⟨c1, fun q hq => by simp [l_slices_IndexFunc_Suint8_uint8_0, e1, ha, hm, hl, k1 q hq, w1]; rfl⟩, .inl ⟨rfl, k, by omega, i + 1, by omega, ⟨by simp, by simp, by simp [hd], by simp [hr]⟩, fun j hj => ?_⟩⟩
        by_cases e : j = i
        · subst e; exact hq
        · exact hx j (by omega))
  obtain ⟨o, s, h1, h2, h3, h4, h5⟩ := key n { env := [(0, lv), (1, F), (7, i64 n), (8, i64 0)], m := { h := m.h } } ⟨0, by simp, ⟨by simp, rfl, rfl, rfl⟩, by simp⟩
  obtain ⟨c0, h1⟩ := h1.get
  unfold idxOf
  rcases h5 with ⟨rfl, i, h5, h6⟩ | ⟨rfl, h6⟩ <;> rw [h6]
  · exact CallR.eval0 rfl rfl prog_slices_IndexFunc_Suint8_uint8 rfl ⟨c0, fun k hk => by simp [a_slices_IndexFunc_Suint8_uint8, hE.len, h1 k hk, h4, h5, h3]⟩
  · exact CallR.eval0 rfl rfl prog_slices_IndexFunc_Suint8_uint8 rfl ⟨c0, fun k hk => by simp [a_slices_IndexFunc_Suint8_uint8, hE.len, h1 k hk, h4, h3]⟩

theorem CF_u8_spec {lv F : AV} {n : Nat} {m : Mem} {e : Nat → AV} {p : Nat → Bool} (hn : n < 2 ^ 63) (hE : Els lv n 1 1 false m.h e) (hp : ∀ i, i < n → CallR C F [e i] { h := m.h } (.ret (bo (p i)) { h := m.h })) :
    CallR C (fnv fn_slices_ContainsFunc_Suint8_uint8) [lv, F] m (.ret (bo ((List.range n).any p)) m) := by
  obtain ⟨c1, k1⟩ := IF_u8_spec (m := { h := m.h }) hn hE hp
  rcases idxOf_any n p with ⟨h1, h2⟩ | ⟨h1, h2⟩
  · rw [h2]
    have e1 : (0 ≤ idxOf n p) = True := eq_true h1
    exact CallR.eval0 rfl rfl prog_slices_ContainsFunc_Suint8_uint8 rfl ⟨c1, fun k hk => by simp [a_slices_ContainsFunc_Suint8_uint8, k1 k hk, e1]⟩
  · rw [h2]
    have e1 : (0 ≤ idxOf n p) = False := eq_false (by omega)
    exact CallR.eval0 rfl rfl prog_slices_ContainsFunc_Suint8_uint8 rfl ⟨c1, fun k hk => by simp [a_slices_ContainsFunc_Suint8_uint8, k1 k hk, e1]⟩

theorem all_u8_1_spec {H : List Blk} {W : List Nat} {b : Nat} {R x : AV} {v : Bool} (hR : okV R = true) (hc : R.cells = [R]) (hb : H[b]? = some (.cells [R] ty_func_uint8_bool 0)) (hr : ∀ X, CallR C R [x] { h := H ++ X } (.ret (bo v) { h := H ++ X })) :
    CallR C (.fn fn_tally_all_uint8_1 [] [.own b 0 0]) [x] { h := H, wr := W } (.ret (bo (!v)) { h := H, wr := W }) := by
  have hbl : b < H.length := getElem?_lt hb
  obtain ⟨c1, k1⟩ := hr []
  exact CallR.evalA (m1 := { h := H ++ [] }) rfl rfl prog_tally_all_uint8_1 rfl ⟨c1, fun k hk => by
    have := k1 k hk
    try simp at this
    simp [a_tally_all_uint8_1, hb, this]⟩ (by simp) (by simp)

theorem all_u8_spec {lv R : AV} {n : Nat} {m : Mem} {e : Nat → AV} {p : Nat → Bool} (hn : n < 2 ^ 63) (hR : okV R = true) (hc : R.cells = [R]) (hE : ∀ X, Els lv n 1 1 false (m.h ++ X) e) (hr : ∀ i, i < n → ∀ X, CallR C R [e i] { h := m.h ++ X } (.ret (bo (p i)) { h := m.h ++ X })) :
    CallR C (fnv fn_tally_all_uint8) [lv, R] m (.ret (bo ((List.range n).all p)) m) := by
  obtain ⟨H, hH⟩ : ∃ H, H = m.h ++ [.cells [R] ty_func_uint8_bool 0] := ⟨_, rfl⟩
  have hb : H[m.h.length]? = some (.cells [R] ty_func_uint8_bool 0) := by simp [hH]
  have ht : H.take m.h.length = m.h := by simp [hH]
  have h1 : ∀ i, i < n → CallR C (.fn fn_tally_all_uint8_1 [] [.own m.h.length 0 0]) [e i] { h := H } (.ret (bo (!p i)) { h := H }) := fun i hi =>
    all_u8_1_spec hR hc hb (fun X => by have := hr i hi ([.cells [R] ty_func_uint8_bool 0] ++ X); simpa [hH] using this)
  obtain ⟨c1, k1⟩ := CF_u8_spec (m := { h := H }) hn (by have := hE [.cells [R] ty_func_uint8_bool 0]; rwa [← hH] at this) h1
  have he : (List.range n).any (fun i => !p i) = !(List.range n).all p := by simp [List.not_all_eq_any_not]
  rw [he] at k1
  exact CallR.eval (m1 := { h := H }) rfl rfl prog_tally_all_uint8 rfl ⟨c1, fun k hk => by simp [-okV, -AV.cells, a_tally_all_uint8, hR, hc, allR, AV.toR, ← hH, k1 k hk]⟩ ht (by simp)

theorem all_range {α : Type} (l : List α) (x0 : α) (p : α → Bool) : ((List.range l.length).all fun j => p (l.getD j x0)) = l.all p := by
  have h := any_range l x0 fun x => !p x
  rw [List.all_eq_not_any_not, List.all_eq_not_any_not, h]
theorem Count1_spec (x : Int) (m : Mem) : CallR C (fnv fn_tally_Count_1) [u8 x] m (.ret (bo (decide (x ≤ 2))) m) :=
  CallR.eval0 rfl rfl prog_tally_Count_1 rfl ⟨0, fun k _ => by simp [a_tally_Count_1]⟩
end Go.AM.T
/- What the functions compute (own work). -/
namespace Go.AM.T
open Go Go.AM
attribute [local simp] so_mov so_pick so_alloc so_box so_build so_slit so_load so_store so_nilc so_bin so_beq so_eqs so_eqn so_eqnl so_not so_conv so_s2b so_mkfn so_slcA so_padd so_fld so_idxA so_idxV so_idxT so_look so_mupd so_mkmap so_mksl so_ext so_app so_lenT so_lenM so_min so_max so_cpy so_clr so_mkif so_tass so_lenS so_idxS so_slc
attribute [local simp] dn_skip dn_label dn_ret dn_exit dn_scope dn_keep dn_reg dn_draw0 noSlots denE denEI stepE  sd_mov sd_pick sd_build sd_load sd_store sd_nilc sd_bin sd_beq sd_eqs sd_eqn sd_eqnl sd_not sd_conv sd_s2b sd_mkfn sd_slc sd_slcA sd_padd sd_fld sd_idxS sd_idxA sd_idxV sd_idxT sd_look sd_mupd sd_ext sd_app sd_lenS sd_lenT sd_lenM sd_min sd_max sd_mkif sd_tass sd_call sd_slit dn_seq dn_cond dn_block dn_loop kn_call denIs denI denOp wants ev eget putD binL enumFrom AV.bool? AV.int? ekeep evs evp runV fin runDefs resAll resOf tupOf unit AV.cells okV ok1 Value.oneCell' fill setN rcells rs_nil rs_cons load_own load_cons mkAgg_rs storeN jmpOut
attribute [local simp] dvL dv1t dvAt mkAgg2 dv0 dv1 dv2 dv3 dv4 dv5 dv6 dv7 dv8 dv9 dv10 dvA dvN dvAll C_fz fzr
def truthB' (d : Div) (u : List Int) : Bool := u.all (fun v => decide (v ≤ 2)) && decide ((u.length : Int) = d.n)
def fitsB' (d : Div) (u : List Int) : Bool := (List.range d.n.toNat).all fun i => decide (u.getD i 0 ∈ may d i)
/-- The error of a count. -/
def cntE (d : Div) (u : List Int) : Int := if rightB d = true then (if truthB' d u = true then (if faultI d = 0 then (if fitsB' d u = true then 0 else 7) else faultI d) else 2) else 1
theorem pad_take {u : List Int} (i : Nat) (hi : i < u.length) (h40 : u.length ≤ 40) : (pad (u.take i)).set i u[i] = pad (u.take (i + 1)) := by
  have h1 : (u.take i).length = i := by rw [List.length_take]; omega
  have := pad_set (b := u.take i) u[i] (by omega)
  rw [h1] at this
  rw [this, List.take_succ_eq_append_getElem hi]
theorem pad_len {u : List Int} (h : u.length ≤ 40) : (pad u).length = 40 := by unfold pad; simp; omega
section
variable {d : Div} {a0 a1 n0 n1 p q : RV}
theorem count_loop (hn : 1 ≤ d.n ∧ d.n ≤ 40) {R : List RV} (lR : R.length = 91) (hRm : ∀ i : Nat, i < 40 → (i : Int) < d.n → List.take 1 (List.drop (51 + i) (rs R)) = [.r (slU (may d i))])
    {u : List Int} {v : AV} (hu : (u.length : Int) = d.n) {M0 H : List Blk} (hA : ∀ H' : List Blk, H'.take M0.length = M0 → Arr .u8 H' v u) {cN cR cT : Nat} (hM : H.take M0.length = M0) (hN : H[cN]? = some (.cells [i64 0, i64 0] ty_tally_Numbers 0)) (hR : H[cR]? = some (.cells (rs R) ty_tally_looked 0)) (hT : cT < H.length) (hNT : cN ≠ cT) (hRT : cR ≠ cT) (hMT : M0.length ≤ cT) (hMN : M0.length ≤ cN) :
    ∀ (k i : Nat) (s : St), i + k = u.length → ekeep [4, 7, 8, 35, 36, 37] s.env = [(4, .own cN 0 0), (7, .own cR 0 0), (8, .own cT 0 0), (35, v), (36, i64 u.length), (37, i64 i)] → s.m.h = H.set cT (.cells (rs (ints .u8 (pad (u.take i)))) ty_tally_truth 0) → (∀ x ∈ s.m.wr, M0.length ≤ x) → s.defs = [] → (∀ j, j < i → decide (u.getD j 0 ∈ may d j) = true) →
      ∃ s' o, Loop C [4, 7, 8, 35, 36, 37] l_tally_Count_0 s o s' ∧ (∀ x ∈ s'.m.wr, M0.length ≤ x) ∧ s'.defs = [] ∧ eget s'.env 4 = .own cN 0 0 ∧
        ((o = .ret ∧ eget s'.env 5 = u8 0 ∧ eget s'.env 6 = i64 7 ∧ s'.m.h.take M0.length = M0 ∧ s'.m.h[cN]? = some (.cells [i64 0, i64 0] ty_tally_Numbers 0) ∧ fitsB' d u = false) ∨
          (o = .exit 0 ∧ eget s'.env 7 = .own cR 0 0 ∧ eget s'.env 8 = .own cT 0 0 ∧ s'.m.h = H.set cT (.cells (rs (ints .u8 (pad u))) ty_tally_truth 0) ∧ fitsB' d u = true)) := by
  intro k
  induction k with
  | zero =>
    intro i s hi he hm hw hd hx
    have e0 : ((i : Int) < (u.length : Int)) = False := eq_false (by omega)
    rw [List.take_of_length_le (by omega)] at hm
    refine ⟨_, .exit 0, .stop (.of fun K => by rw [he]; simp [l_tally_Count_0, e0]; rfl) (by simp), by simpa using hw, by simp [hd], by simp, .inr ⟨rfl, by simp, by simp, by simp [hm], ?_⟩⟩
    unfold fitsB'
    rw [List.all_eq_true]
    intro j hj
    exact hx j (by simp at hj; omega)
  | succ k ih =>
    intro i s hi he hm hw hd hx
    obtain ⟨M, hMM⟩ : ∃ M, M = s.m := ⟨_, rfl⟩
    obtain ⟨h, w⟩ := M
    rw [← hMM] at hm hw
    simp only at hm hw
    have hil : i < u.length := by omega
    have hi40 : i < 40 := by omega
    have e0 : ((i : Int) < (u.length : Int)) = True := eq_true (by omega)
    have e40 : ((i : Int) < 40) = True := eq_true (by omega)
    have w1 : IntKind.wrap .i64 ((i : Int) + 1) = i + 1 := by rw [w64] <;> omega
    have hMh : h.take M0.length = M0 := by rw [hm, List.take_set_of_le hMT]; exact hM
    obtain ⟨a, ha, hld⟩ := (hA h hMh).el i hil
    have hld := hld w
    rw [getD_get hil] at hld
    have gN : h[cN]? = some (.cells [i64 0, i64 0] ty_tally_Numbers 0) := by rw [hm, List.getElem?_set_ne (Ne.symm hNT)]; exact hN
    have gR : h[cR]? = some (.cells (rs R) ty_tally_looked 0) := by rw [hm, List.getElem?_set_ne (Ne.symm hRT)]; exact hR
    have hmay := hRm i hi40 (by omega)
    have oa : (51 + i + 1 ≤ 91) = True := eq_true (by omega)
    have hml := may_len3 d i
    obtain ⟨c1, k1⟩ := ContainsU_spec (m := { h := h, wr := w }) (l := may d i) (Arr.ofSl (Sl.slU (may d i))) (by omega) u[i]
    have hc : (may d i).contains u[i] = decide (u.getD i 0 ∈ may d i) := by rw [getD_get hil, Bool.eq_iff_iff]; simp
    rw [hc] at k1
    obtain ⟨x, hxx⟩ : ∃ x, x = u[i] := ⟨_, rfl⟩
    rw [← hxx] at k1 hld
    cases hp : decide (u.getD i 0 ∈ may d i) with
    | false =>
      rw [hp] at k1
      have hsame : h.set cN (.cells [i64 0, i64 0] ty_tally_Numbers 0) = h := set_same gN
      refine ⟨_, .ret, .stop (.ofN ⟨c1, fun n hn' => by
        rw [he]
        simp [l_tally_Count_0, ← hMM, e0, e40, ha, hld, gR, rs_len, lR, oa, hmay, k1 n hn', gN, mkAgg, allR, AV.toR, hsame]
        rfl⟩) (by simp), ?_, by simp [hd], by simp, .inl ⟨rfl, by simp, by simp, by simp [hMh], by simp [gN], ?_⟩⟩
      · intro y hy
        simp at hy
        rcases hy with rfl | hy
        · exact hMN
        · exact hw y hy
      · unfold fitsB'
        rw [List.all_eq_false]
        exact ⟨i, by simp; omega, by rw [hp]; simp⟩
    | true =>
      rw [hp] at k1
      have hpl : (u.take i).length ≤ 40 := by rw [List.length_take]; omega
      have gT : h[cT]? = some (.cells (rs (ints .u8 (pad (u.take i)))) ty_tally_truth 0) := by rw [hm, List.getElem?_set_self hT]
      have lT : (rs (ints .u8 (pad (u.take i)))).length = 40 := by rw [rs_len, ints_len, pad_len hpl]
      have pT := put_ints (k := .u8) (l := pad (u.take i)) (j := i) (by rw [pad_len hpl]; exact hi40) x
      rw [hxx, pad_take i hil (by omega), ← hxx] at pT
      have o40 : (i + 1 ≤ 40) = True := eq_true (by omega)
      have hset : h.set cT (.cells (rs (ints .u8 (pad (u.take (i + 1))))) ty_tally_truth 0) = H.set cT (.cells (rs (ints .u8 (pad (u.take (i + 1))))) ty_tally_truth 0) := by rw [hm, List.set_set]
      obtain ⟨I, hI⟩ : ∃ I, I = ints .u8 (pad (u.take i)) := ⟨_, rfl⟩
      obtain ⟨I2, hI2⟩ : ∃ I, I = ints .u8 (pad (u.take (i + 1))) := ⟨_, rfl⟩
      rw [← hI] at gT lT pT
      rw [← hI2] at pT hset
      have hrd : ∃ s1, Den C l_tally_Count_0 { s with env := ekeep [4, 7, 8, 35, 36, 37] s.env } .norm s1 ∧ ekeep [4, 7, 8, 35, 36, 37] s1.env = [(4, .own cN 0 0), (7, .own cR 0 0), (8, .own cT 0 0), (35, v), (36, i64 u.length), (37, i64 (i + 1 : Nat))] ∧ s1.m = { h := h.set cT (.cells (rs I2) ty_tally_truth 0), wr := cT :: w } ∧ s1.defs = [] :=
        ⟨_, .ofN ⟨c1, fun n hn' => by
          rw [he]
          simp [l_tally_Count_0, ← hMM, e0, e40, ha, hld, gR, rs_len, lR, oa, hmay, k1 n hn', gT, lT, o40, pT, w1]
          rfl⟩, by simp, by simp, by simp [hd]⟩
      obtain ⟨s1, r1, r2, r3, r4⟩ := hrd
      obtain ⟨s', o, g1, g2⟩ := ih (i + 1) s1 (by omega) r2 (by rw [r3, ← hI2]; exact hset) (by
        rw [r3]
        intro y hy
        rcases List.mem_cons.1 hy with rfl | hy
        · exact hMT
        · exact hw y hy) r4 (by
        intro j hj
        by_cases e : j = i
        · subst e; exact hp
        · exact hx j (by omega))
      exact ⟨s', o, .more r1 g1, g2⟩
end
end Go.AM.T
/- What the functions compute (own work). -/
namespace Go.AM.T
open Go Go.AM
attribute [local simp] so_mov so_pick so_alloc so_box so_build so_slit so_load so_store so_nilc so_bin so_beq so_eqs so_eqn so_eqnl so_not so_conv so_s2b so_mkfn so_slcA so_padd so_fld so_idxA so_idxV so_idxT so_look so_mupd so_mkmap so_mksl so_ext so_app so_lenT so_lenM so_min so_max so_cpy so_clr so_mkif so_tass so_lenS so_idxS so_slc
attribute [local simp] dn_skip dn_label dn_ret dn_exit dn_scope dn_keep dn_reg dn_draw0 noSlots denE denEI stepE  sd_mov sd_pick sd_build sd_load sd_store sd_nilc sd_bin sd_beq sd_eqs sd_eqn sd_eqnl sd_not sd_conv sd_s2b sd_mkfn sd_slc sd_slcA sd_padd sd_fld sd_idxS sd_idxA sd_idxV sd_idxT sd_look sd_mupd sd_ext sd_app sd_lenS sd_lenT sd_lenM sd_min sd_max sd_mkif sd_tass sd_call sd_slit dn_seq dn_cond dn_block dn_loop kn_call denIs denI denOp wants ev eget putD binL enumFrom AV.bool? AV.int? ekeep evs evp runV fin runDefs resAll resOf tupOf unit AV.cells okV ok1 Value.oneCell' fill setN rcells rs_nil rs_cons load_own load_cons mkAgg_rs storeN jmpOut
attribute [local simp] dvL dv1t dvAt mkAgg2 dv0 dv1 dv2 dv3 dv4 dv5 dv6 dv7 dv8 dv9 dv10 dvA dvN dvAll C_fz fzr
section
variable {d : Div} {a0 a1 n0 n1 p q : RV}
def cntN (d : Div) (u : List Int) : Int × Int := if cntE d u = 0 then numsL d u else (0, 0)
def cntO (d : Div) (u : List Int) : Int := if cntE d u = 0 then outcomeI d (numsL d u) else 0
theorem Count_spec (hs : DivS d a0 a1 n0 n1 p q) (hb : Small d) (hru : 0 ≤ d.rule ∧ d.rule ≤ 255) {u : List Int} {v : AV} (hul : u.length < 2 ^ 62) (m : Mem) (hA : ∀ H' : List Blk, H'.take m.h.length = m.h → Arr .u8 H' v u) :
    CallR C (fnv fn_tally_Count) [.r (.agg (divC d a0 a1 n0 n1 p q)), v] m (.ret (.tup [.r (nmR (cntN d u)), u8 (cntO d u), i64 (cntE d u)]) m) := by
  have hd11 : (divC d a0 a1 n0 n1 p q).length = 11 := rfl
  obtain ⟨D, hD⟩ : ∃ D, D = divC d a0 a1 n0 n1 p q := ⟨_, rfl⟩
  obtain ⟨H0, hH0⟩ : ∃ H0, H0 = m.h ++ [.cells (rs D) ty_tally_Division 0, .cells [i64 0, i64 0] ty_tally_Numbers 0] := ⟨_, rfl⟩
  obtain ⟨c1, k1⟩ := valid_spec hs hb hru { h := H0 }
  rw [valid_right] at k1
  have hl0 : H0.length = m.h.length + 2 := by simp [hH0]
  have ht0 : H0.take m.h.length = m.h := by simp [hH0]
  have b0 : H0[m.h.length]? = some (.cells (rs D) ty_tally_Division 0) := by simp [hH0]
  have b1 : H0[m.h.length + 1]? = some (.cells [i64 0, i64 0] ty_tally_Numbers 0) := by rw [hH0, get_midk]; rfl
  have hs0 : H0.set (m.h.length + 1) (.cells [i64 0, i64 0] ty_tally_Numbers 0) = H0 := set_same b1
  have hlen := (hA m.h (by simp)).len
  have hDn : List.take 1 (rs D) = [i64 d.n] := by rw [hD]; rfl
  have nm0 : nmR (0, 0) = .agg [.lit (.int .i64 0), .lit (.int .i64 0)] := rfl
  have fin0 : ∀ (e : Int) (c : Nat) (H : List Blk) (W : List Nat), cntE d u = e → e ≠ 0 → H.take m.h.length = m.h → (∀ x ∈ W, m.h.length ≤ x) → (∀ k, c ≤ k → runV (Kn C k) C.fz a_tally_Count [.r (.agg D), v] m.h = some (.tup [.r (.agg [.lit (.int .i64 0), .lit (.int .i64 0)]), u8 0, i64 e], { h := H, wr := W })) →
      CallR C (fnv fn_tally_Count) [.r (.agg D), v] m (.ret (.tup [.r (nmR (cntN d u)), u8 (cntO d u), i64 (cntE d u)]) m) := by
    intro e c H W he hne ht hw h
    have h1 : cntN d u = (0, 0) := by unfold cntN; rw [he, if_neg hne]
    have h2 : cntO d u = 0 := by unfold cntO; rw [he, if_neg hne]
    rw [h1, h2, he, nm0]
    exact CallR.eval (m1 := { h := H, wr := W }) rfl rfl prog_tally_Count rfl ⟨c, fun k hk => by simpa using h k hk⟩ ht hw
  rw [← hD] at k1 hd11 ⊢
  have hDt : List.take 11 (rs D) = rs D := List.take_of_length_le (by rw [rs_len]; omega)
  cases hr : rightB d with
  | false =>
    rw [hr] at k1
    refine fin0 1 c1 H0 [m.h.length + 1] (by simp [cntE, hr]) (by decide) ht0 (by simp) fun k hk => ?_
    simp [a_tally_Count, rs_len, hd11, hDt, ← hH0, b0, b1, gq b0, gq b1, k1 k hk, hs0, mkAgg, allR, AV.toR, allR_rs, fz, fzs]
  | true =>
  rw [hr] at k1
  have hn := right_n hr
  have hE : ∀ X, Els v u.length 1 1 false (H0 ++ X) (fun i => u8 (u.getD i 0)) := fun X => hA (H0 ++ X) (by rw [List.take_append_of_le_length (by omega)]; exact ht0)
  obtain ⟨c2, k2⟩ := all_u8_spec (m := { h := H0, wr := [] }) (lv := v) (R := .r (.fn fn_tally_Count_1 [] [])) (n := u.length) (e := fun i => u8 (u.getD i 0)) (p := fun i => decide (u.getD i 0 ≤ 2)) (by omega) rfl rfl hE (fun i hi X => Count1_spec _ _)
  rw [all_range u 0 fun x => decide (x ≤ 2)] at k2
  by_cases htr : truthB' d u = true
  case neg =>
    have hc2 : cntE d u = 2 := by unfold cntE; rw [if_pos hr, if_neg htr]
    refine fin0 2 (c1 + c2) H0 [m.h.length + 1] hc2 (by decide) ht0 (by simp) fun k hk => ?_
    by_cases hl : (u.length : Int) = d.n
    · have hl' : ((u.length : Int) != d.n) = false := by simp [hl]
      have hal : u.all (fun x => decide (x ≤ 2)) = false := by
        cases h : u.all (fun x => decide (x ≤ 2)) with
        | false => rfl
        | true => exact absurd (by unfold truthB'; rw [h]; simpa using hl) htr
      rw [hal] at k2
      simp [a_tally_Count, rs_len, hd11, hDt, ← hH0, b0, b1, gq b0, gq b1, k1 k (by omega), hlen, hDn, hl', hl, k2 k (by omega), hs0, mkAgg, allR, AV.toR, allR_rs, fz, fzs]
    · have hl' : ((u.length : Int) != d.n) = true := by simpa using hl
      simp [a_tally_Count, rs_len, hd11, hDt, ← hH0, b0, b1, gq b0, gq b1, k1 k (by omega), hlen, hDn, hl', hl, hs0, mkAgg, allR, AV.toR, allR_rs, fz, fzs]
  have htr2 : u.all (fun x => decide (x ≤ 2)) = true ∧ (u.length : Int) = d.n := by
    unfold truthB' at htr
    rw [Bool.and_eq_true, decide_eq_true_eq] at htr
    exact htr
  obtain ⟨hal, hl⟩ := htr2
  have hl' : ((u.length : Int) != d.n) = false := by simp [hl]
  rw [hal] at k2
  obtain ⟨c3, k3⟩ := begin_spec hs hb hru { h := H0, wr := [] }
  rw [← hD] at k3
  obtain ⟨R, hRR⟩ : ∃ R, R = (if faultI d = 0 then lookC d D else z_tally_looked) := ⟨_, rfl⟩
  rw [← hRR] at k3
  have lR : R.length = 91 := by rw [hRR, hD]; split <;> rfl
  have hRt : List.take 91 (rs R) = rs R := List.take_of_length_le (by rw [rs_len]; omega)
  obtain ⟨Z, hZ⟩ : ∃ Z, Z = z_tally_looked := ⟨_, rfl⟩
  have hZl : Z.length = 91 := by rw [hZ]; rfl
  have hZd : List.drop 91 (rs Z) = [] := List.drop_eq_nil_of_le (by rw [rs_len]; omega)
  have hget : ∀ b : Blk, (H0 ++ [b])[H0.length]? = some b := fun b => by simp
  have hset : ∀ b b' : Blk, (H0 ++ [b]).set H0.length b' = H0 ++ [b'] := fun b b' => by simp
  have hH0l : ∀ b : Blk, (H0 ++ [b])[m.h.length + 2]? = some b := fun b => by rw [← hl0]; simp
  have hset2 : ∀ b b' : Blk, (H0 ++ [b]).set (m.h.length + 2) b' = H0 ++ [b'] := fun b b' => by rw [← hl0]; simp
  have up : ∀ (X : List Blk) j, j < m.h.length + 2 → (H0 ++ X)[j]? = H0[j]? := fun X j hj => List.getElem?_append_left (by omega)
  by_cases hf : faultI d = 0
  case neg =>
    have hcf : cntE d u = faultI d := by unfold cntE; rw [if_pos hr, if_pos htr, if_neg hf]
    obtain ⟨H1, hH1⟩ : ∃ H1, H1 = H0 ++ [.cells (rs R) ty_tally_looked 0] := ⟨_, rfl⟩
    have d1 : H1[m.h.length + 1]? = some (.cells [i64 0, i64 0] ty_tally_Numbers 0) := by rw [hH1, up _ _ (by omega)]; exact b1
    have hs1 : H1.set (m.h.length + 1) (.cells [i64 0, i64 0] ty_tally_Numbers 0) = H1 := set_same d1
    have hf' : (faultI d != 0) = true := by simpa using hf
    obtain ⟨z, hz⟩ : ∃ z, z = faultI d := ⟨_, rfl⟩
    rw [← hz] at hcf hf hf' k3
    refine fin0 z (c1 + c2 + c3) H1 [m.h.length + 1, m.h.length + 2] hcf hf (by rw [hH1, List.take_append_of_le_length (by omega)]; exact ht0) (by simp) fun k hk => ?_
    simp [a_tally_Count, rs_len, hd11, hDt, ← hH0, b0, b1, gq b0, gq b1, k1 k (by omega), hlen, hDn, hl', hl, k2 k (by omega), k3 k (by omega), ← hZ, hZl, hZd, lR, hl0, hget, hset, hH0l, hset2, ← hH1, hf', d1, gq d1, hs1, mkAgg, allR, AV.toR, allR_rs, fz, fzs]
  rw [if_pos hf] at hRR
  rw [hf] at k3
  have hu40 : u.length ≤ 40 := by omega
  have hRm : ∀ i : Nat, i < 40 → (i : Int) < d.n → List.take 1 (List.drop (51 + i) (rs R)) = [.r (slU (may d i))] := fun i => by rw [hRR, hD]; exact lookC_may
  obtain ⟨H1, hH1⟩ : ∃ H1, H1 = H0 ++ [.cells (rs R) ty_tally_looked 0] := ⟨_, rfl⟩
  obtain ⟨H2, hH2⟩ : ∃ H2, H2 = H1 ++ [.cells (rs z_tally_truth) ty_tally_truth 0] := ⟨_, rfl⟩
  have hl1 : H1.length = m.h.length + 3 := by simp [hH1, hl0]
  have hl2 : H2.length = m.h.length + 4 := by simp [hH2, hl1]
  have ht1 : H1.take m.h.length = m.h := by rw [hH1, List.take_append_of_le_length (by omega)]; exact ht0
  have ht2 : H2.take m.h.length = m.h := by rw [hH2, List.take_append_of_le_length (by omega)]; exact ht1
  have e1 : H2[m.h.length + 1]? = some (.cells [i64 0, i64 0] ty_tally_Numbers 0) := by rw [hH2, List.getElem?_append_left (by omega), hH1, up _ _ (by omega)]; exact b1
  have e2 : H2[m.h.length + 2]? = some (.cells (rs R) ty_tally_looked 0) := by rw [hH2, List.getElem?_append_left (by omega), hH1, ← hl0]; simp
  have e3 : H2[m.h.length + 3]? = some (.cells (rs z_tally_truth) ty_tally_truth 0) := by rw [hH2, ← hl1]; simp
  have hz0 : z_tally_truth = ints .u8 (pad (u.take 0)) := by rw [truth_zero]; rfl
  obtain ⟨s', o, l1, hw', hd', f4, hor⟩ := count_loop (R := R) (u := u) (v := v) hn lR hRm hl hA (cN := m.h.length + 1) (cR := m.h.length + 2) (cT := m.h.length + 3) (H := H2) ht2 e1 e2 (by omega) (by omega) (by omega) (by omega) (by omega) u.length 0
    { env := [(37, i64 0), (36, i64 u.length), (35, v), (8, .own (m.h.length + 3) 0 0), (1, v), (4, .own (m.h.length + 1) 0 0), (6, i64 0), (7, .own (m.h.length + 2) 0 0), (32, bo false)], m := { h := H2, wr := [m.h.length + 2] } } (by omega) (by simp) (by rw [← hz0]; exact (set_same e3).symm) (by simp) rfl (by intro j hj; omega)
  obtain ⟨c4, k4⟩ := l1.get
  have hget1 : ∀ b : Blk, (H1 ++ [b])[H1.length]? = some b := fun b => by simp
  rcases hor with ⟨rfl, f5, f6, htk, hN', hfit⟩ | ⟨rfl, f7, f8, hh, hfit⟩
  · have hc7 : cntE d u = 7 := by unfold cntE; rw [if_pos hr, if_pos htr, if_pos hf, hfit]; rfl
    obtain ⟨M, hM⟩ : ∃ M, M = s'.m := ⟨_, rfl⟩
    rw [← hM] at htk hN' hw'
    refine fin0 7 (c1 + c2 + c3 + c4) M.h M.wr hc7 (by decide) htk hw' fun k hk => ?_
    have k4 := k4 k (by omega)
    rw [hl] at k4
    simp [a_tally_Count, rs_len, hd11, hDt, ← hH0, b0, b1, gq b0, gq b1, k1 k (by omega), hlen, hDn, hl', hl, k2 k (by omega), k3 k (by omega), ← hZ, hZl, hZd, lR, hl0, hget, hset, hH0l, hset2, ← hH1, hl1, ← hH2, k4, f4, f5, f6, hd', ← hM, hN', mkAgg, allR, AV.toR, allR_rs, fz, fzs]
  · have hc0 : cntE d u = 0 := by unfold cntE; rw [if_pos hr, if_pos htr, if_pos hf, hfit]; rfl
    have hN0 : cntN d u = numsL d u := by unfold cntN; rw [if_pos hc0]
    have hO0 : cntO d u = outcomeI d (numsL d u) := by unfold cntO; rw [if_pos hc0]
    rw [hN0, hO0, hc0]
    obtain ⟨W', hW'⟩ : ∃ W', W' = s'.m.wr := ⟨_, rfl⟩
    obtain ⟨H3, hH3⟩ : ∃ H3, H3 = H2.set (m.h.length + 3) (.cells (rs (ints .u8 (pad u))) ty_tally_truth 0) := ⟨_, rfl⟩
    have hsm : s'.m = { h := H3, wr := W' } := by rw [hH3, hW', ← hh]
    rw [← hW'] at hw'
    have i1 : H3[m.h.length + 1]? = some (.cells [i64 0, i64 0] ty_tally_Numbers 0) := by rw [hH3, List.getElem?_set_ne (by omega)]; exact e1
    have i2 : H3[m.h.length + 2]? = some (.cells (rs R) ty_tally_looked 0) := by rw [hH3, List.getElem?_set_ne (by omega)]; exact e2
    have i3 : H3[m.h.length + 3]? = some (.cells (rs (ints .u8 (pad u))) ty_tally_truth 0) := by rw [hH3, List.getElem?_set_self (by omega)]
    have hl3 : H3.length = m.h.length + 4 := by simp [hH3, hl2]
    obtain ⟨c5, k5⟩ := numbers_spec hs hr (t := pad u) (pad_len hu40) { h := H3, wr := W' }
    rw [nums_pad, ← hD, ← hRR] at k5
    obtain ⟨n, hnn⟩ : ∃ n, n = numsL d u := ⟨_, rfl⟩
    rw [← hnn] at k5 ⊢
    have hnl := nums_le hr u
    rw [← hnn] at hnl
    obtain ⟨H4, hH4⟩ : ∃ H4, H4 = H3.set (m.h.length + 1) (.cells [i64 n.1, i64 n.2] ty_tally_Numbers 0) := ⟨_, rfl⟩
    obtain ⟨c6, k6⟩ := outcome_spec (a0 := a0) (a1 := a1) (n0 := n0) (n1 := n1) (p := p) (q := q) hr hru.1 n hnl.1 hnl.2 { h := H4 }
    rw [← hD, ← hRR] at k6
    simp only [nmR] at k6 ⊢
    have j1 : H4[m.h.length + 1]? = some (.cells [i64 n.1, i64 n.2] ty_tally_Numbers 0) := by rw [hH4, List.getElem?_set_self (by omega)]
    have j2 : H4[m.h.length + 2]? = some (.cells (rs R) ty_tally_looked 0) := by rw [hH4, List.getElem?_set_ne (by omega)]; exact i2
    have hs4 : H4.set (m.h.length + 1) (.cells [i64 n.1, i64 n.2] ty_tally_Numbers 0) = H4 := set_same j1
    obtain ⟨o', ho'⟩ : ∃ o', o' = outcomeI d n := ⟨_, rfl⟩
    rw [← ho'] at k6 ⊢
    have lI : (ints .u8 (pad u)).length = 40 := by rw [ints_len, pad_len hu40]
    have tI : List.take 40 (rs (ints .u8 (pad u))) = rs (ints .u8 (pad u)) := List.take_of_length_le (by rw [rs_len]; omega)
    obtain ⟨I, hI⟩ : ∃ I, I = ints .u8 (pad u) := ⟨_, rfl⟩
    rw [← hI] at i3 k5 lI tI
    refine CallR.eval (m1 := { h := H4, wr := (m.h.length + 1) :: (m.h.length + 1) :: W' }) rfl rfl prog_tally_Count rfl ⟨c1 + c2 + c3 + c4 + c5 + c6, fun k hk => ?_⟩ (by rw [hH4, List.take_set_of_le (by omega), hH3, List.take_set_of_le (by omega)]; exact ht2) (by
      intro x hx
      simp only [List.mem_cons] at hx
      rcases hx with rfl | rfl | hx
      · omega
      · omega
      · exact hw' x hx)
    have k4 := k4 k (by omega)
    rw [hl] at k4
    simp [a_tally_Count, rs_len, hd11, hDt, ← hH0, b0, b1, gq b0, gq b1, k1 k (by omega), hlen, hDn, hl', hl, k2 k (by omega), k3 k (by omega), ← hZ, hZl, hZd, lR, hRt, hl0, hget, hset, hH0l, hset2, ← hH1, hl1, ← hH2, k4, f4, f7, f8, hd', hsm, i1, i2, i3, gq i1, gq i2, gq i3, lI, tI, k5 k (by omega), dn_drawF, denF, denFI, stepF, slotFree, slotOf, foot, avIdx, pairsOk, apartL_nil, wrAll_self, ← hH4, j1, j2, gq j1, gq j2, k6 k (by omega), hs4, mkAgg, allR, AV.toR, allR_rs, fz, fzs]
end
end Go.AM.T
/- What the functions compute (own work). -/
namespace Go.AM.T
open Go Go.AM
attribute [local simp] so_mov so_pick so_alloc so_box so_build so_slit so_load so_store so_nilc so_bin so_beq so_eqs so_eqn so_eqnl so_not so_conv so_s2b so_mkfn so_slcA so_padd so_fld so_idxA so_idxV so_idxT so_look so_mupd so_mkmap so_mksl so_ext so_app so_lenT so_lenM so_min so_max so_cpy so_clr so_mkif so_tass so_lenS so_idxS so_slc
attribute [local simp] dn_skip dn_label dn_ret dn_exit dn_scope dn_keep dn_reg dn_draw0 noSlots denE denEI stepE  sd_mov sd_pick sd_build sd_load sd_store sd_nilc sd_bin sd_beq sd_eqs sd_eqn sd_eqnl sd_not sd_conv sd_s2b sd_mkfn sd_slc sd_slcA sd_padd sd_fld sd_idxS sd_idxA sd_idxV sd_idxT sd_look sd_mupd sd_ext sd_app sd_lenS sd_lenT sd_lenM sd_min sd_max sd_mkif sd_tass sd_call sd_slit dn_seq dn_cond dn_block dn_loop kn_call denIs denI denOp wants ev eget putD binL enumFrom AV.bool? AV.int? ekeep evs evp runV fin runDefs resAll resOf tupOf unit AV.cells okV ok1 Value.oneCell' fill setN rcells rs_nil rs_cons load_own load_cons mkAgg_rs storeN jmpOut
attribute [local simp] dvL dv1t dvAt mkAgg2 dv0 dv1 dv2 dv3 dv4 dv5 dv6 dv7 dv8 dv9 dv10 dvA dvN dvAll C_fz fzr
section
variable {d : Div} {a0 a1 n0 n1 p q : RV}
theorem refTruth_spec (hs : DivS d a0 a1 n0 n1 p q) {u : List Int} {v : RV} (hv : Sl (ints .u8 u) u.length v) (hb : u.length < 2 ^ 62) (m : Mem) : CallR C (fnv fn_ref07_Truth) [.r (.agg (divC d a0 a1 n0 n1 p q)), .r v] m (.ret (bo (truthB' d u)) m) := by
  obtain ⟨H, hH⟩ : ∃ H, H = m.h ++ [.cells (rs (divC d a0 a1 n0 n1 p q)) ty_ref07_Division 0] := ⟨_, rfl⟩
  have hc : H[m.h.length]? = some (.cells (rs (divC d a0 a1 n0 n1 p q)) ty_ref07_Division 0) := by simp [hH]
  have ht : H.take m.h.length = m.h := by simp [hH]
  have hd11 : (divC d a0 a1 n0 n1 p q).length = 11 := rfl
  have key : ∀ (k i : Nat) (s : St), i + k = u.length → ekeep [1, 2, 5] s.env = [(1, .r v), (2, .own m.h.length 0 0), (5, i64 i)] → s.m = { h := H } → s.defs = [] → (∀ x ∈ u.take i, x ≤ 2) →
      ∃ s' o, Loop C [1, 2, 5] l_ref07_Truth_0 s o s' ∧ s'.m = { h := H } ∧ s'.defs = [] ∧ ((o = .ret ∧ eget s'.env 4 = bo false ∧ u.all (fun v => decide (v ≤ 2)) = false) ∨ (o = .exit 0 ∧ eget s'.env 1 = .r v ∧ eget s'.env 2 = .own m.h.length 0 0 ∧ u.all (fun v => decide (v ≤ 2)) = true)) := by
    intro k
    induction k with
    | zero =>
      intro i s hi he hm hd hx
      have e0 : ((i : Int) < (u.length : Int)) = False := eq_false (by omega)
      rw [List.take_of_length_le (by omega)] at hx
      exact ⟨_, .exit 0, .stop (.of fun K => by rw [he]; simp [l_ref07_Truth_0, hv.len, e0]; rfl) (by simp), by simp [hm], by simp [hd], .inr ⟨rfl, by simp, by simp, by rw [List.all_eq_true]; exact fun x h => by simpa using hx x h⟩⟩
    | succ k ih =>
      intro i s hi he hm hd hx
      have hil : i < u.length := by omega
      have e0 : ((i : Int) < (u.length : Int)) = True := eq_true (by omega)
      have w1 : IntKind.wrap .i64 ((i : Int) + 1) = i + 1 := by rw [w64] <;> omega
      by_cases h2 : 2 < u[i]
      · have e1 := eq_true h2
        exact ⟨_, .ret, .stop (.of fun K => by rw [he]; simp [l_ref07_Truth_0, hv.len, e0, hv.at hil, load_ints hil, e1]; rfl) (by simp), by simp [hm], by simp [hd], .inl ⟨rfl, by simp, by rw [List.all_eq_false]; exact ⟨u[i], List.getElem_mem hil, by simp; omega⟩⟩⟩
      · have e1 := eq_false h2
        have hrd : ∃ s1, Den C l_ref07_Truth_0 { s with env := ekeep [1, 2, 5] s.env } .norm s1 ∧ ekeep [1, 2, 5] s1.env = [(1, .r v), (2, .own m.h.length 0 0), (5, i64 (i + 1 : Nat))] ∧ s1.m = { h := H } ∧ s1.defs = [] :=
          ⟨_, .of fun K => by rw [he]; simp [l_ref07_Truth_0, hv.len, e0, hv.at hil, load_ints hil, e1, w1]; rfl, by simp, by simp [hm], by simp [hd]⟩
        obtain ⟨s1, r1, r2, r3, r4⟩ := hrd
        obtain ⟨s', o, g1, g2, g3, g4⟩ := ih (i + 1) s1 (by omega) r2 r3 r4 (by
          intro x hx'
          rw [List.take_succ_eq_append_getElem hil, List.mem_append] at hx'
          rcases hx' with h | h
          · exact hx x h
          · simp at h; omega)
        exact ⟨s', o, .more r1 g1, g2, g3, g4⟩
  obtain ⟨s', o, l1, h2, h3, h4⟩ := key u.length 0 { env := [(5, i64 0), (1, .r v), (2, .own m.h.length 0 0)], m := { h := H } } (by omega) (by simp) rfl rfl (by simp)
  obtain ⟨c1, k1⟩ := l1.get
  unfold truthB'
  rcases h4 with ⟨rfl, e1, e2⟩ | ⟨rfl, e1, e2, e3⟩
  · rw [e2]
    exact CallR.eval (m1 := { h := H }) rfl rfl prog_ref07_Truth rfl ⟨c1, fun k hk => by simp [a_ref07_Truth, ← hH, k1 k hk, e1, h2, h3]⟩ ht (by simp)
  · rw [e3]
    have e4 : ((u.length : Int) == d.n) = decide ((u.length : Int) = d.n) := by rw [Bool.eq_iff_iff]; simp
    exact CallR.eval (m1 := { h := H }) rfl rfl prog_ref07_Truth rfl ⟨c1, fun k hk => by simp [a_ref07_Truth, ← hH, k1 k hk, e1, e2, h2, h3, hv.len, hc, hd11, e4]⟩ ht (by simp)
theorem refFits_spec (hs : DivS d a0 a1 n0 n1 p q) (hb : Small d) (hn : 1 ≤ d.n ∧ d.n ≤ 40) {u : List Int} {v : RV} (hv : Sl (ints .u8 u) u.length v) (hu : (u.length : Int) = d.n) (hok : VOk u) (m : Mem) : CallR C (fnv fn_ref07_Fits) [.r (.agg (divC d a0 a1 n0 n1 p q)), .r v] m (.ret (bo (fitsB' d u)) m) := by
  obtain ⟨H, hH⟩ : ∃ H, H = m.h ++ [.cells (rs (divC d a0 a1 n0 n1 p q)) ty_ref07_Division 0] := ⟨_, rfl⟩
  have hc : H[m.h.length]? = some (.cells (rs (divC d a0 a1 n0 n1 p q)) ty_ref07_Division 0) := by simp [hH]
  have ht : H.take m.h.length = m.h := by simp [hH]
  have hd11 : (divC d a0 a1 n0 n1 p q).length = 11 := rfl
  obtain ⟨P, hP⟩ : ∃ P : Nat → Bool, P = fun (i : Nat) => decide (u.getD i 0 ∈ may d i) := ⟨_, rfl⟩
  have key : ∀ (k i : Nat) (s : St), (i : Int) + k = d.n → ekeep [1, 2, 5] s.env = [(1, .r v), (2, .own m.h.length 0 0), (5, i64 i)] → s.m = { h := H } → s.defs = [] → (∀ j, j < i → P j = true) →
      ∃ s' o, Loop C [1, 2, 5] l_ref07_Fits_0 s o s' ∧ s'.m = { h := H } ∧ s'.defs = [] ∧ ((o = .ret ∧ eget s'.env 4 = bo false ∧ (List.range d.n.toNat).all P = false) ∨ (o = .exit 0 ∧ (List.range d.n.toNat).all P = true)) := by
    intro k
    induction k with
    | zero =>
      intro i s hi he hm hd hx
      have e0 : ((i : Int) < d.n) = False := eq_false (by omega)
      refine ⟨_, .exit 0, .stop (.of fun K => by rw [he]; simp [l_ref07_Fits_0, hm, hc, hd11, e0]; rfl) (by simp), by simp [hm], by simp [hd], .inr ⟨rfl, ?_⟩⟩
      rw [List.all_eq_true]
      intro j hj
      exact hx j (by simp at hj; omega)
    | succ k ih =>
      intro i s hi he hm hd hx
      have hil : i < u.length := by omega
      have e0 : ((i : Int) < d.n) = True := eq_true (by omega)
      have w1 : IntKind.wrap .i64 ((i : Int) + 1) = i + 1 := by rw [w64] <;> omega
      obtain ⟨c1, k1⟩ := refMay_spec hs hb i u[i] (hok _ (List.getElem_mem hil)) { h := H }
      have hPi : decide (u[i] ∈ may d i) = P i := by rw [hP]; simp only [getD_get hil]
      rw [hPi] at k1
      cases hp : P i with
      | false =>
        rw [hp] at k1
        refine ⟨_, .ret, .stop (.ofN ⟨c1, fun n hn' => by rw [he]; simp [l_ref07_Fits_0, hm, hc, hd11, e0, hv.at hil, load_ints hil, k1 n hn']; rfl⟩) (by simp), by simp, by simp [hd], .inl ⟨rfl, by simp, ?_⟩⟩
        rw [List.all_eq_false]
        exact ⟨i, by simp; omega, by simp [hp]⟩
      | true =>
        rw [hp] at k1
        have hrd : ∃ s1, Den C l_ref07_Fits_0 { s with env := ekeep [1, 2, 5] s.env } .norm s1 ∧ ekeep [1, 2, 5] s1.env = [(1, .r v), (2, .own m.h.length 0 0), (5, i64 (i + 1 : Nat))] ∧ s1.m = { h := H } ∧ s1.defs = [] :=
          ⟨_, .ofN ⟨c1, fun n hn' => by rw [he]; simp [l_ref07_Fits_0, hm, hc, hd11, e0, hv.at hil, load_ints hil, k1 n hn', w1]; rfl⟩, by simp, by simp, by simp [hd]⟩
        obtain ⟨s1, r1, r2, r3, r4⟩ := hrd
        obtain ⟨s', o, g1, g2, g3, g4⟩ := ih (i + 1) s1 (by omega) r2 r3 r4 (by
          intro j hj
          by_cases e : j = i
          · subst e; exact hp
          · exact hx j (by omega))
        exact ⟨s', o, .more r1 g1, g2, g3, g4⟩
  obtain ⟨s', o, l1, h2, h3, h4⟩ := key d.n.toNat 0 { env := [(5, i64 0), (1, .r v), (2, .own m.h.length 0 0)], m := { h := H } } (by omega) (by simp) rfl rfl (by simp)
  obtain ⟨c1, k1⟩ := l1.get
  unfold fitsB'
  rw [← hP]
  rcases h4 with ⟨rfl, e1, e2⟩ | ⟨rfl, e3⟩
  · rw [e2]
    exact CallR.eval (m1 := { h := H }) rfl rfl prog_ref07_Fits rfl ⟨c1, fun k hk => by simp [a_ref07_Fits, ← hH, k1 k hk, e1, h2, h3]⟩ ht (by simp)
  · rw [e3]
    exact CallR.eval (m1 := { h := H }) rfl rfl prog_ref07_Fits rfl ⟨c1, fun k hk => by simp [a_ref07_Fits, ← hH, k1 k hk, h2, h3]⟩ ht (by simp)
end
end Go.AM.T
/- What the functions compute (own work). -/
namespace Go.AM.T
open Go Go.AM
attribute [local simp] so_mov so_pick so_alloc so_box so_build so_slit so_load so_store so_nilc so_bin so_beq so_eqs so_eqn so_eqnl so_not so_conv so_s2b so_mkfn so_slcA so_padd so_fld so_idxA so_idxV so_idxT so_look so_mupd so_mkmap so_mksl so_ext so_app so_lenT so_lenM so_min so_max so_cpy so_clr so_mkif so_tass so_lenS so_idxS so_slc
attribute [local simp] dn_skip dn_label dn_ret dn_exit dn_scope dn_keep dn_reg dn_draw0 noSlots denE denEI stepE  sd_mov sd_pick sd_build sd_load sd_store sd_nilc sd_bin sd_beq sd_eqs sd_eqn sd_eqnl sd_not sd_conv sd_s2b sd_mkfn sd_slc sd_slcA sd_padd sd_fld sd_idxS sd_idxA sd_idxV sd_idxT sd_look sd_mupd sd_ext sd_app sd_lenS sd_lenT sd_lenM sd_min sd_max sd_mkif sd_tass sd_call sd_slit dn_seq dn_cond dn_block dn_loop kn_call denIs denI denOp wants ev eget putD binL enumFrom AV.bool? AV.int? ekeep evs evp runV fin runDefs resAll resOf tupOf unit AV.cells okV ok1 Value.oneCell' fill setN rcells rs_nil rs_cons load_own load_cons mkAgg_rs storeN jmpOut
attribute [local simp] dvL dv1t dvAt mkAgg2 dv0 dv1 dv2 dv3 dv4 dv5 dv6 dv7 dv8 dv9 dv10 dvA dvN dvAll C_fz fzr
/-- The truths that fit: what they are, member by member. -/
theorem rtF_get {d : Div} : ∀ (r : Nat) (b u : List Int), u ∈ rtF d r b → ∀ i, i < b.length → u.getD i 0 = b.getD i 0
  | 0, b, u, h, i, _ => by unfold rtF at h; simp at h; rw [h]
  | r + 1, b, u, h, i, hi => by
    unfold rtF at h
    obtain ⟨v, _, hu⟩ := List.mem_flatMap.1 h
    rw [rtF_get r (b ++ [v]) u hu i (by simp; omega), List.getD_eq_getElem?_getD, List.getElem?_append_left hi, List.getD_eq_getElem?_getD]
theorem rtF_may {d : Div} : ∀ (r : Nat) (b u : List Int), u ∈ rtF d r b → ∀ i, b.length ≤ i → i < b.length + r → u.getD i 0 ∈ may d i
  | 0, b, u, h, i, h1, h2 => by omega
  | r + 1, b, u, h, i, h1, h2 => by
    unfold rtF at h
    obtain ⟨v, hv, hu⟩ := List.mem_flatMap.1 h
    by_cases e : i = b.length
    · subst e
      rw [rtF_get r (b ++ [v]) u hu b.length (by simp)]
      simpa using hv
    · exact rtF_may r (b ++ [v]) u hu i (by simp; omega) (by simp; omega)
theorem rt_fits {d : Div} {u : List Int} (hu : u ∈ rtOf d) : fitsB' d u = true := by
  unfold fitsB'
  rw [List.all_eq_true]
  intro i hi
  exact decide_eq_true (rtF_may _ _ _ hu i (by simp) (by simpa using hi))
theorem rt_truth {d : Div} (hn : 0 ≤ d.n) {u : List Int} (hu : u ∈ rtOf d) : truthB' d u = true := by
  obtain ⟨h1, h2⟩ := rt_ok u hu
  unfold truthB'
  rw [Bool.and_eq_true, List.all_eq_true]
  refine ⟨fun x hx => decide_eq_true ?_, decide_eq_true (by omega)⟩
  have := h2 x hx
  omega
theorem rt_cnt {d : Div} (ho : openI d = 0) {u : List Int} (hu : u ∈ rtOf d) : cntE d u = 0 := by
  obtain ⟨hr, hcl, hd⟩ := openI0 ho
  unfold cntE
  rw [if_pos hr, if_pos (rt_truth (by have := right_n hr; omega) hu), if_pos (by unfold faultI; rw [if_pos hr, hcl]; rfl), if_pos (rt_fits hu)]
theorem alS_rt {d : Div} (ho : openI d = 0) {u : List Int} (hu : u ∈ rtOf d) : outcomeI d (numsL d u) ∈ alS d := by
  have hn := right_n (openI0 ho).1
  have hm : outcomeI d (numsL d u) ∈ alL d := by
    rw [alL_mem, truthsOf_rt hn.2]
    exact ⟨pad u, List.mem_map_of_mem hu, by rw [nums_pad]⟩
  unfold alS
  rw [List.mem_filter]
  exact ⟨by have := (alL_ok d).2 _ hm; rcases this with h | h | h <;> rw [h] <;> simp, by simpa using hm⟩
section
variable {d : Div} {a0 a1 n0 n1 p q : RV}
theorem ready_spec (hs : DivS d a0 a1 n0 n1 p q) (hb : Small d) (m : Mem) : CallR C (fnv fn_law07_ready) [.r (.agg (divC d a0 a1 n0 n1 p q))] m (.ret (bo (fewB d && decide (openI d = 0))) m) := by
  obtain ⟨H, hH⟩ : ∃ H, H = m.h ++ [.cells (rs (divC d a0 a1 n0 n1 p q)) ty_ref07_Division 0] := ⟨_, rfl⟩
  have hc : H[m.h.length]? = some (.cells (rs (divC d a0 a1 n0 n1 p q)) ty_ref07_Division 0) := by simp [hH]
  have ht : H.take m.h.length = m.h := by simp [hH]
  have hd11 : (divC d a0 a1 n0 n1 p q).length = 11 := rfl
  obtain ⟨c0, k0⟩ := Few_spec hs { h := H }
  obtain ⟨c1, k1⟩ := lawopen_spec hs hb { h := H }
  cases ef : fewB d with
  | false =>
    rw [ef] at k0
    exact CallR.eval (m1 := { h := H }) rfl rfl prog_law07_ready rfl ⟨c0, fun k hk => by simp [a_law07_ready, ← hH, hc, hd11, k0 k (by omega)]⟩ ht (by simp)
  | true =>
    rw [ef] at k0
    obtain ⟨z, hz⟩ : ∃ z, z = openI d := ⟨_, rfl⟩
    rw [← hz] at k1 ⊢
    refine CallR.eval (m1 := { h := H }) rfl rfl prog_law07_ready rfl ⟨c0 + c1, fun k hk => ?_⟩ ht (by simp)
    by_cases e : z = 0
    · simp [a_law07_ready, ← hH, hc, hd11, k0 k (by omega), k1 k (by omega), e]
    · have e' : (z == 0) = false := by simpa using e
      simp [a_law07_ready, ← hH, hc, hd11, k0 k (by omega), k1 k (by omega), e, e']
end
end Go.AM.T
/- What the functions compute (own work). -/
namespace Go.AM.T
open Go Go.AM
attribute [local simp] so_mov so_pick so_alloc so_box so_build so_slit so_load so_store so_nilc so_bin so_beq so_eqs so_eqn so_eqnl so_not so_conv so_s2b so_mkfn so_slcA so_padd so_fld so_idxA so_idxV so_idxT so_look so_mupd so_mkmap so_mksl so_ext so_app so_lenT so_lenM so_min so_max so_cpy so_clr so_mkif so_tass so_lenS so_idxS so_slc
attribute [local simp] dn_skip dn_label dn_ret dn_exit dn_scope dn_keep dn_reg dn_draw0 noSlots denE denEI stepE  sd_mov sd_pick sd_build sd_load sd_store sd_nilc sd_bin sd_beq sd_eqs sd_eqn sd_eqnl sd_not sd_conv sd_s2b sd_mkfn sd_slc sd_slcA sd_padd sd_fld sd_idxS sd_idxA sd_idxV sd_idxT sd_look sd_mupd sd_ext sd_app sd_lenS sd_lenT sd_lenM sd_min sd_max sd_mkif sd_tass sd_call sd_slit dn_seq dn_cond dn_block dn_loop kn_call denIs denI denOp wants ev eget putD binL enumFrom AV.bool? AV.int? ekeep evs evp runV fin runDefs resAll resOf tupOf unit AV.cells okV ok1 Value.oneCell' fill setN rcells rs_nil rs_cons load_own load_cons mkAgg_rs storeN jmpOut
attribute [local simp] dvL dv1t dvAt mkAgg2 dv0 dv1 dv2 dv3 dv4 dv5 dv6 dv7 dv8 dv9 dv10 dvA dvN dvAll C_fz fzr
theorem al_at (f : Int → Bool) : ∀ o : Nat, o < 3 →
    (f o = true → ∃ h : ((([0, 1, 2] : List Int).take o).filter f).length < (([0, 1, 2] : List Int).filter f).length, (([0, 1, 2] : List Int).filter f)[((([0, 1, 2] : List Int).take o).filter f).length] = o ∧ ((([0, 1, 2] : List Int).take (o + 1)).filter f).length = ((([0, 1, 2] : List Int).take o).filter f).length + 1) ∧
    (f o = false → (((([0, 1, 2] : List Int).take o).filter f).length = (([0, 1, 2] : List Int).filter f).length ∨ ∃ h : ((([0, 1, 2] : List Int).take o).filter f).length < (([0, 1, 2] : List Int).filter f).length, (([0, 1, 2] : List Int).filter f)[((([0, 1, 2] : List Int).take o).filter f).length] ≠ o) ∧ ((([0, 1, 2] : List Int).take (o + 1)).filter f).length = ((([0, 1, 2] : List Int).take o).filter f).length) := by
  intro o ho
  have h3 : o = 0 ∨ o = 1 ∨ o = 2 := by omega
  rcases h3 with rfl | rfl | rfl <;> cases e0 : f 0 <;> cases e1 : f 1 <;> cases e2 : f 2 <;> simp [List.take, List.filter, e0, e1, e2]
theorem wi_al {d : Div} (hn : d.n ≤ 40) (o : Int) : ((alL d).contains o = true → ∃ u, wiF d o = some u ∧ u ∈ rtOf d ∧ outcomeI d (numsL d u) = o) ∧ ((alL d).contains o = false → wiF d o = none) := by
  rw [alL_rt hn]
  unfold wiF
  refine ⟨fun h => ?_, fun h => ?_⟩
  · rw [List.any_eq_true] at h
    obtain ⟨u, hu, hx⟩ := h
    cases hf : (rtOf d).find? fun u => outcomeI d (numsL d u) == o with
    | none =>
      rw [List.find?_eq_none] at hf
      exact absurd hx (by simpa using hf u hu)
    | some w =>
      exact ⟨w, rfl, List.mem_of_find?_eq_some hf, by simpa using List.find?_some hf⟩
  · rw [List.find?_eq_none]
    rw [List.any_eq_false] at h
    exact h
section
variable {d : Div} {a0 a1 n0 n1 p q : RV}
theorem wit_loop (hs : DivS d a0 a1 n0 n1 p q) (hb : Small d) (hru : 0 ≤ d.rule ∧ d.rule ≤ 255) (hfew : fewB d = true) (ho : openI d = 0) {v3 : RV} (hal : Sl (ints .u8 (alS d)) (alS d).length v3) :
    ∀ (k o a : Nat) (s : St), o + k = 3 → a = ((([0, 1, 2] : List Int).take o).filter fun o => (alL d).contains o).length → ekeep [1, 3, 5, 6] s.env = [(1, .own 0 0 0), (3, .r v3), (5, i64 a), (6, i64 o)] → s.m.h[0]? = some (.cells (rs (divC d a0 a1 n0 n1 p q)) ty_ref07_Division 0) → s.defs = [] →
      ∃ s', Loop C [1, 3, 5, 6] l_law07_TallyWitness_0 s (.exit 0) s' ∧ eget s'.env 3 = .r v3 ∧ eget s'.env 5 = i64 (alS d).length ∧ s'.defs = [] := by
  have hd11 : (divC d a0 a1 n0 n1 p q).length = 11 := rfl
  have hln : lenOf (.r .nil) = some 0 := rfl
  have hr := (openI0 ho).1
  have hn := right_n hr
  have hal3 : (alS d).length ≤ 3 := by unfold alS; exact Nat.le_trans (List.length_filter_le _ _) (by decide)
  intro k
  induction k with
  | zero =>
    intro o a s hk ha he hc hd
    have h3 : o = 3 := by omega
    subst h3
    have ha2 : a = (alS d).length := ha
    exact ⟨_, .stop (.of fun K => by rw [he]; simp [l_law07_TallyWitness_0]; rfl) (by simp), by simp, by simp [ha2], by simp [hd]⟩
  | succ k ih =>
    intro o a s hk ha he hc hd
    obtain ⟨M, hMM⟩ : ∃ M, M = s.m := ⟨_, rfl⟩
    obtain ⟨H, W⟩ := M
    rw [← hMM] at hc
    simp only at hc
    have e0 : ((o : Int) < 3) = True := eq_true (by omega)
    have w1 : IntKind.wrap .i64 ((o : Int) + 1) = o + 1 := by rw [w64] <;> omega
    have w8 : IntKind.wrap .u8 (o : Int) = o := by rw [wu8] <;> omega
    have wa : IntKind.wrap .i64 ((a : Int) + 1) = a + 1 := by
      have : a ≤ 3 := by rw [ha]; refine Nat.le_trans (List.length_filter_le _ _) ?_; rw [List.length_take]; exact Nat.le_trans (Nat.min_le_right _ _) (by decide)
      rw [w64] <;> omega
    obtain ⟨c1, k1⟩ := lawDivision_spec hs hfew { h := H, wr := W }
    obtain ⟨c2, k2⟩ := Witness_spec (copyS d) hb hru o { h := H, wr := W }
    rw [show divC d (listV d.a0) (listV d.a1) (listV d.n0) (listV d.n1) (pairV d.pairs) (pairV d.proxies) = copyC d from rfl] at k2
    have hask : askI d o = 0 := by unfold askI; rw [if_pos hr, if_neg (by omega)]; exact ho
    obtain ⟨X, hX⟩ : ∃ X, X = copyC d := ⟨_, rfl⟩
    obtain ⟨al1, al2⟩ := al_at (fun o => (alL d).contains o) o (by omega)
    rw [show (([0, 1, 2] : List Int).filter fun o => (alL d).contains o) = alS d from rfl] at al1 al2
    rw [← ha] at al1 al2
    obtain ⟨wi1, wi2⟩ := wi_al (d := d) hn.2 o
    cases hf : (alL d).contains (o : Int) with
    | false =>
      obtain ⟨hat, hnx⟩ := al2 hf
      have hwi := wi2 hf
      rw [show witR d o = .nil by unfold witR; rw [if_pos hask, hwi]; rfl, show witE d o = 7 by unfold witE; rw [if_pos hask, hwi]; rfl] at k2
      rw [← hX] at k1 k2
      have hrd : ∃ s1, Den C l_law07_TallyWitness_0 { s with env := ekeep [1, 3, 5, 6] s.env } .norm s1 ∧ ekeep [1, 3, 5, 6] s1.env = [(1, .own 0 0 0), (3, .r v3), (5, i64 a), (6, i64 (o + 1 : Nat))] ∧ s1.m = { h := H, wr := W } ∧ s1.defs = [] := by
        obtain ⟨D, hD⟩ : ∃ D, D = divC d a0 a1 n0 n1 p q := ⟨_, rfl⟩
        rw [← hD] at k1 hc hd11
        have hDt : List.take 11 (rs D) = rs D := List.take_of_length_le (by rw [rs_len]; omega)
        rcases hat with hat | ⟨hat, hne⟩
        · have q1 : ((a : Int) = ((alS d).length : Int)) = True := eq_true (by omega)
          exact ⟨_, .ofN ⟨c1 + c2, fun n hn' => by
            rw [he]
            simp [l_law07_TallyWitness_0, ← hMM, e0, hc, gq hc, rs_len, hd11, hDt, k1 n (by omega), w8, k2 n (by omega), hal.len, q1, hat, w1, allR, AV.toR, mkAgg, allR_rs, hln]
            rfl⟩, by simp [hat], by simp, by simp [hd]⟩
        · have q1 : ((a : Int) = ((alS d).length : Int)) = False := eq_false (by omega)
          have q1b : ((a : Int) == ((alS d).length : Int)) = false := by rw [beq_eq_false_iff_ne]; omega
          have hneb : ((alS d)[a] == (o : Int)) = false := by rw [beq_eq_false_iff_ne]; exact hne
          have q1' : (a = (alS d).length) = False := eq_false (by omega)
          exact ⟨_, .ofN ⟨c1 + c2, fun n hn' => by
            rw [he]
            simp [l_law07_TallyWitness_0, ← hMM, e0, hc, gq hc, rs_len, hd11, hDt, k1 n (by omega), w8, k2 n (by omega), hal.len, q1, q1', q1b, hal.at hat, load_ints hat, hne, hneb, w1, allR, AV.toR, mkAgg, allR_rs, hln]
            rfl⟩, by simp, by simp, by simp [hd]⟩
      obtain ⟨s1, r1, r2, r3, r4⟩ := hrd
      obtain ⟨s', g1, g2⟩ := ih (o + 1) a s1 (by omega) hnx.symm r2 (by rw [r3]; exact hc) r4
      exact ⟨s', .more r1 g1, g2⟩
    | true =>
      obtain ⟨hat, heq, hnx⟩ := al1 hf
      obtain ⟨u, hwi, hum, hou⟩ := wi1 hf
      obtain ⟨hul, huo⟩ := rt_ok u hum
      obtain ⟨UV, hUV⟩ : ∃ UV, UV = RV.sl (ints .u8 u) u.length none := ⟨_, rfl⟩
      have hv : Sl (ints .u8 u) u.length UV := by rw [hUV]; exact Sl.mk _ _ _
      rw [show witR d o = UV by unfold witR; rw [if_pos hask, hwi, hUV]; rfl, show witE d o = 0 by unfold witE; rw [if_pos hask, hwi]; rfl] at k2
      obtain ⟨c3, k3⟩ := refTruth_spec hs hv (by omega) { h := H, wr := W }
      obtain ⟨c4, k4⟩ := refFits_spec hs hb hn hv (by omega) huo { h := H, wr := W }
      obtain ⟨c5, k5⟩ := Count_spec (copyS d) hb hru (u := u) (v := .r UV) (by omega) { h := H, wr := W } fun H' _ => Arr.ofSl hv
      rw [rt_truth (by omega) hum] at k3
      rw [rt_fits hum] at k4
      obtain ⟨N, hN⟩ : ∃ N, N = numsL d u := ⟨_, rfl⟩
      rw [rt_cnt ho hum, show cntN d u = N by unfold cntN; rw [rt_cnt ho hum, if_pos rfl, hN], show cntO d u = o by unfold cntO; rw [rt_cnt ho hum, if_pos rfl, hou], show divC d (listV d.a0) (listV d.a1) (listV d.n0) (listV d.n1) (pairV d.pairs) (pairV d.proxies) = copyC d from rfl] at k5
      simp only [nmR] at k5
      rw [← hX] at k1 k2 k5
      have q1 : ((a : Int) = ((alS d).length : Int)) = False := eq_false (by omega)
      have q1' : (a = (alS d).length) = False := eq_false (by omega)
      have q1b : ((a : Int) == ((alS d).length : Int)) = false := by rw [beq_eq_false_iff_ne]; omega
      have hset : ∀ b b' : Blk, (H ++ [b]).set H.length b' = H ++ [b'] := fun b b' => by simp
      have hget : ∀ b : Blk, (H ++ [b])[H.length]? = some b := fun b => by simp
      have hlt := getElem?_lt hc
      have hrd : ∃ s1, Den C l_law07_TallyWitness_0 { s with env := ekeep [1, 3, 5, 6] s.env } .norm s1 ∧ ekeep [1, 3, 5, 6] s1.env = [(1, .own 0 0 0), (3, .r v3), (5, i64 (a + 1 : Nat)), (6, i64 (o + 1 : Nat))] ∧ s1.m.h = H ++ [.cells [i64 N.1, i64 N.2] ty_tally_Numbers 0] ∧ s1.defs = [] := by
        obtain ⟨D, hD⟩ : ∃ D, D = divC d a0 a1 n0 n1 p q := ⟨_, rfl⟩
        rw [← hD] at k1 k3 k4 hc hd11
        have hDt : List.take 11 (rs D) = rs D := List.take_of_length_le (by rw [rs_len]; omega)
        exact ⟨_, .ofN ⟨c1 + c2 + c3 + c4 + c5, fun n hn' => by
          rw [he]
          simp [l_law07_TallyWitness_0, ← hMM, e0, hc, gq hc, rs_len, hd11, hDt, k1 n (by omega), w8, k2 n (by omega), hal.len, q1, q1', q1b, hal.at hat, load_ints hat, heq, w1, wa, k3 n (by omega), k4 n (by omega), k5 n (by omega), allR, AV.toR, mkAgg, allR_rs, hset, hget]
          rfl⟩, by simp, by simp, by simp [hd]⟩
      obtain ⟨s1, r1, r2, r3, r4⟩ := hrd
      obtain ⟨s', g1, g2⟩ := ih (o + 1) (a + 1) s1 (by omega) hnx.symm r2 (by rw [r3, List.getElem?_append_left (by omega)]; exact hc) r4
      exact ⟨s', .more r1 g1, g2⟩
theorem TallyWitness_spec (hs : DivS d a0 a1 n0 n1 p q) (hb : Small d) (hru : 0 ≤ d.rule ∧ d.rule ≤ 255) : CallR C (fnv fn_law07_TallyWitness) [.r (.agg (divC d a0 a1 n0 n1 p q))] { h := [] } (.ret (bo true) { h := [] }) := by
  have hd11 : (divC d a0 a1 n0 n1 p q).length = 11 := rfl
  obtain ⟨H0, hH0⟩ : ∃ H : List Blk, H = [.cells (rs (divC d a0 a1 n0 n1 p q)) ty_ref07_Division 0] := ⟨_, rfl⟩
  obtain ⟨c1, k1⟩ := ready_spec hs hb { h := H0 }
  obtain ⟨c2, k2⟩ := wakes_spec { h := H0 }
  have g0 : H0[0]? = some (.cells (rs (divC d a0 a1 n0 n1 p q)) ty_ref07_Division 0) := by rw [hH0]; rfl
  obtain ⟨D, hD⟩ : ∃ D, D = divC d a0 a1 n0 n1 p q := ⟨_, rfl⟩
  cases hrdy : (fewB d && decide (openI d = 0)) with
  | false =>
    rw [hrdy] at k1
    rw [← hD] at k1 hH0 g0 hd11 ⊢
    have hDt : List.take 11 (rs D) = rs D := List.take_of_length_le (by rw [rs_len]; omega)
    exact CallR.eval (m1 := { h := H0 }) rfl rfl prog_law07_TallyWitness rfl ⟨c1 + c2, fun k hk => by simp [a_law07_TallyWitness, rs_len, hd11, hDt, ← hH0, g0, gq g0, k1 k (by omega), k2 k (by omega)]⟩ (by simp) (by simp)
  | true =>
  rw [hrdy] at k1
  have hfo : fewB d = true ∧ openI d = 0 := by
    rw [Bool.and_eq_true, decide_eq_true_eq] at hrdy
    exact hrdy
  obtain ⟨hfew, ho⟩ := hfo
  obtain ⟨c4, k4⟩ := lawDivision_spec hs hfew { h := H0 }
  obtain ⟨c7, k7⟩ := Allowed_spec (copyS d) hb hru { h := H0 }
  rw [show divC d (listV d.a0) (listV d.a1) (listV d.n0) (listV d.n1) (pairV d.pairs) (pairV d.proxies) = copyC d from rfl, ho, if_pos rfl] at k7
  obtain ⟨v3, hv3⟩ : ∃ v3 : RV, v3 = .sl (ints .u8 (alS d)) (alS d).length none := ⟨_, rfl⟩
  rw [← hv3] at k7
  have hal : Sl (ints .u8 (alS d)) (alS d).length v3 := by rw [hv3]; exact Sl.mk _ _ _
  have hal3 : (alS d).length ≤ 3 := by unfold alS; exact Nat.le_trans (List.length_filter_le _ _) (by decide)
  have hal1 : (alS d).length ≠ 0 := by
    rw [alS_len]
    exact fun h => alL_ne ho (List.length_eq_zero_iff.1 h)
  have q1 : (((alS d).length : Int) < 1) = False := eq_false (by omega)
  have q2 : (3 < ((alS d).length : Int)) = False := eq_false (by omega)
  have q1' : ((alS d).length < 1) = False := eq_false (by omega)
  have q2' : (3 < (alS d).length) = False := eq_false (by omega)
  have q3 : (alS d = []) = False := eq_false fun h => hal1 (by rw [h]; rfl)
  obtain ⟨X, hX⟩ : ∃ X, X = copyC d := ⟨_, rfl⟩
  rw [← hX] at k4 k7
  obtain ⟨s', l1, e1, e2, d1⟩ := wit_loop hs hb hru hfew ho hal 3 0 0 { env := [(6, i64 0), (5, i64 0), (1, .own 0 0 0), (3, .r v3), (33, bo false)], m := { h := H0 } } rfl (by simp) (by simp) g0 rfl
  obtain ⟨c9, k9⟩ := l1.get
  obtain ⟨c10, k10⟩ := wakes_spec s'.m
  rw [← hD] at k1 k4 hH0 g0 hd11 ⊢
  have hDt : List.take 11 (rs D) = rs D := List.take_of_length_le (by rw [rs_len]; omega)
  refine CallR.eval (m1 := s'.m) rfl rfl prog_law07_TallyWitness rfl ⟨c1 + c2 + c4 + c7 + c9 + c10, fun k hk => ?_⟩ (by simp) (by simp)
  have k9 := k9 k (by omega)
  simp [a_law07_TallyWitness, rs_len, hd11, hDt, ← hH0, g0, gq g0, k1 k (by omega), k4 k (by omega), k7 k (by omega), allR, AV.toR, mkAgg, allR_rs, hal.len, q1, q2, q1', q2', q3, hal1, k9, d1, e1, e2, k10 k (by omega)]
end
end Go.AM.T
