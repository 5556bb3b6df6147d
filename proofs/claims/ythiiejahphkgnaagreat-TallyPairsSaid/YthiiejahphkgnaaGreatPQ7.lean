/- The machine that the proofs walk by, and what the functions compute: part 7 of the common texts. No condition. (Own work.) -/
import Derived.Test.YthiiejahphkgnaaGreatPQ6
set_option linter.unusedVariables false
set_option linter.unusedSimpArgs false
/- What the functions compute (own work). -/
namespace Go.AM.T
open Go Go.AM
attribute [local simp] so_mov so_pick so_alloc so_box so_build so_slit so_load so_store so_nilc so_bin so_beq so_eqs so_eqn so_eqnl so_not so_conv so_s2b so_mkfn so_slcA so_padd so_fld so_idxA so_idxV so_idxT so_look so_mupd so_mkmap so_mksl so_ext so_app so_lenT so_lenM so_min so_max so_cpy so_clr so_mkif so_tass so_lenS so_idxS so_slc
attribute [local simp] dn_skip dn_label dn_ret dn_exit dn_scope dn_keep dn_reg dn_draw0 noSlots denE denEI stepE  sd_mov sd_pick sd_build sd_load sd_store sd_nilc sd_bin sd_beq sd_eqs sd_eqn sd_eqnl sd_not sd_conv sd_s2b sd_mkfn sd_slc sd_slcA sd_padd sd_fld sd_idxS sd_idxA sd_idxV sd_idxT sd_look sd_mupd sd_ext sd_app sd_lenS sd_lenT sd_lenM sd_min sd_max sd_mkif sd_tass sd_call sd_slit dn_seq dn_cond dn_block dn_loop kn_call denIs denI denOp wants ev eget putD binL enumFrom AV.bool? AV.int? ekeep evs evp runV fin runDefs resAll resOf tupOf unit AV.cells okV ok1 Value.oneCell' fill setN rcells rs_nil rs_cons load_own load_cons mkAgg_rs storeN jmpOut
attribute [local simp] dvL dv1t dvAt mkAgg2 dv0 dv1 dv2 dv3 dv4 dv5 dv6 dv7 dv8 dv9 dv10 dvA dvN dvAll C_fz fzr
section
variable {d : Div} {ms : List Int} {v : AV}
theorem decide_spec (hms : ∀ x ∈ ms, 0 ≤ x ∧ x < 40) (hn : ms.length < 2 ^ 62) (hd40 : d.n ≤ 40) (e : openI d = 0) (m : Mem) (hA : ∀ H' : List Blk, H'.take m.h.length = m.h → Arr .i64 H' v ms) : CallR C (fnv fn_tally_decide) [.r (allV d), v] m (.ret (bo (decB d ms)) m) := by
  have hcnt := truthsOf_count e
  have hts := truthsOf_len hd40
  obtain ⟨s, l1, h2, h3, h4, h5⟩ := dec_outer (d := d) hms hn hts (by omega) (M0 := m.h) hA (hA m.h (by simp)).len none (truthsOf d).length 0 [] { env := [(17, i64 0), (16, i64 (truthsOf d).length), (15, .r (allV d)), (6, bo true), (0, .r (allV d)), (1, v), (5, .omap m.h.length)], m := { h := m.h ++ [.map []] } } (by omega) (by simp) (by simp [allV]) (by rw [List.take_of_length_le (by simp)]; rfl) (by simp) rfl
  obtain ⟨c1, k1⟩ := l1.get
  rw [List.drop_zero, show decF [] (ansO d ms (truthsOf d)) = decB d ms from rfl] at h2
  have hl : lenOf (.r (allV d)) = some (truthsOf d).length := rfl
  obtain ⟨V, hV⟩ : ∃ V, V = allV d := ⟨_, rfl⟩
  rw [← hV] at k1 hl ⊢
  exact CallR.eval (m1 := s.m) rfl rfl prog_tally_decide rfl ⟨c1, fun k hk => by simp [a_tally_decide, hl, k1 k hk, h2, h5]⟩ h3 h4
/-- A copy of a list of numbers. -/
theorem CloneI_spec {l : List Int} {v : AV} {m : Mem} (hl : l.length < 900000) (hv : v = .r .nil ∧ l = [] ∨ (∃ B g T cap, v = .osl B g 0 l.length 1 cap ∧ m.h[B]? = some (.cells (rs (ints .i64 l)) T g) ∧ 0 < l.length)) :
    CallR C (fnv fn_slices_Clone_Sint_int) [v] m (.ret (.r (slI l)) m) := by
  rcases hv with ⟨rfl, rfl⟩ | ⟨B, g, T, cap, rfl, hB, hpos⟩
  · exact CallR.eval0 rfl rfl prog_slices_Clone_Sint_int rfl ⟨0, fun k _ => by simp [a_slices_Clone_Sint_int, slI, gsV]⟩
  · have hsl : ∀ W, slCells { h := m.h, wr := W } (.osl B g 0 l.length 1 cap) 1 = some (rs (ints .i64 l), l.length) := fun W => by
      simp only [slCells, rcells, hB, if_true]
      rw [if_pos ⟨trivial, by rw [rs_len, ints_len]; omega⟩, List.drop_zero, List.take_of_length_le (by rw [rs_len, ints_len]; omega)]
    have happ : ∀ W, appendA { h := m.h, wr := W } ty_int 1 8 (.r (.sl [] 0 (some 0))) (.osl B g 0 l.length 1 cap) = some (.osl m.h.length 0 0 l.length 1 none, { h := m.h ++ [.cells (rs (ints .i64 l)) ty_int 0], wr := W }) := fun W => by
      unfold appendA
      rw [hsl]
      simp only
      rw [if_neg (by omega), if_pos ⟨by omega, rfl, by simp [roomOk]; omega⟩]
      simp [rs]
    have hz : ∀ W, fz { h := m.h ++ [.cells (rs (ints .i64 l)) ty_int 0], wr := W } m.h.length 1000000 (.osl m.h.length 0 0 l.length 1 none) = some (.r (.sl (ints .i64 l) l.length none)) := fun W => fz_osl (t := ty_int) (g := 0) (by simp) (Nat.le_refl _) (by rw [ints_len]; omega) (by rw [ints_len]; omega)
    have hs : slI l = .sl (ints .i64 l) l.length none := by unfold slI gsV; rw [if_neg (by omega)]
    obtain ⟨I, hI⟩ : ∃ I, I = ints .i64 l := ⟨_, rfl⟩
    obtain ⟨n, hn⟩ : ∃ n, n = l.length := ⟨_, rfl⟩
    rw [hs]
    rw [← hI] at happ hz ⊢
    rw [← hn] at happ hz ⊢
    exact CallR.eval (m1 := { h := m.h ++ [.cells (rs I) ty_int 0], wr := [] }) rfl rfl prog_slices_Clone_Sint_int rfl ⟨0, fun k _ => by simp [a_slices_Clone_Sint_int, allR, repl, happ, hz]⟩ (by simp) (by simp)
/-- The function that tries members. -/
def chV (F T D Ch : Nat) : AV := .fn fn_tally_Ask_1 [] [.own F 0 0, .own T 1 0, .own D 1 0, .own Ch 0 0]
/-- A list of members that a heap has. -/
def Now (H : List Blk) (v : AV) (l : List Int) : Prop := v = .r .nil ∧ l = [] ∨ (∃ B g T cap, v = .osl B g 0 l.length 1 cap ∧ H[B]? = some (.cells (rs (ints .i64 l)) T g) ∧ 0 < l.length)
theorem Now.arr {H : List Blk} {v : AV} {l : List Int} (h : Now H v l) : Arr .i64 H v l := by
  rcases h with ⟨rfl, rfl⟩ | ⟨B, g, T, cap, rfl, hB, _⟩
  · exact Arr.ofSl Sl.nil
  · exact Arr.osl hB
theorem Now.keep {H H' : List Blk} {v : AV} {l : List Int} (h : Now H v l) (hk : ∀ (j : Nat) (T : TypeId) (g : Nat), H[j]? = some (Blk.cells (rs (ints .i64 l)) T g) → H'[j]? = some (Blk.cells (rs (ints .i64 l)) T g)) : Now H' v l := by
  rcases h with h | ⟨B, g, T, cap, h1, hB, h2⟩
  · exact .inl h
  · exact .inr ⟨B, g, T, cap, h1, hk _ _ _ hB, h2⟩
theorem choose_leaf {F T D Ch : Nat} {l : List Int} {x : RV} (hl : ∀ y ∈ l, 0 ≤ y ∧ y < 40) (hlen : l.length < 900000) (hd40 : d.n ≤ 40) (e : openI d = 0) {H : List Blk} (hF : H[F]? = some (.cells [.r x] ty_Sint 0)) (hT : H[T]? = some (.cells [.r (allV d)] ty_Stally_told 1)) (hFT : F ≠ T)
    (hnv : Now H v l) (hvF : ∀ j ∈ avIdx v, j ≠ F) (from_ : Int) (W : List Nat) :
    ∃ W', CallR C (chV F T D Ch) [v, i64 from_, i64 0] { h := H, wr := W } (.ret (bo (decB d l)) { h := H.set F (.cells [.r (slI l)] ty_Sint 0), wr := W' }) ∧ ∀ y ∈ W', y ∈ W ∨ y = F := by
  have hFl := getElem?_lt hF
  obtain ⟨c1, k1⟩ := CloneI_spec (m := { h := H }) hlen hnv
  obtain ⟨H2, hH2⟩ : ∃ H2, H2 = H.set F (.cells [.r (slI l)] ty_Sint 0) := ⟨_, rfl⟩
  have hnv2 : Now H2 v l := by
    rcases hnv with h | ⟨B, g, T', cap, h1, hB, h2⟩
    · exact .inl h
    · refine .inr ⟨B, g, T', cap, h1, ?_, h2⟩
      rw [hH2, List.getElem?_set_ne]
      · exact hB
      · intro e; exact hvF B (by rw [h1]; simp [avIdx]) e.symm
  have hT2 : H2[T]? = some (.cells [.r (allV d)] ty_Stally_told 1) := by rw [hH2, List.getElem?_set_ne hFT]; exact hT
  obtain ⟨c2, k2⟩ := decide_spec (v := v) (d := d) hl (by omega) hd40 e { h := H2, wr := [F] } (fun H' hH' => by
    refine (Now.keep hnv2 fun j T' g hj => ?_).arr
    have hH' : H'.take H2.length = H2 := hH'
    rw [take_get hH' (getElem?_lt hj) |>.trans hj])
  have hset : ∃ W', Go.AM.settle C.fz (C.keepAll fn_tally_Ask_1) { h := H, wr := W } (bo (decB d l)) { h := H2, wr := [F] } = (bo (decB d l), { h := H2, wr := W' }) ∧ ∀ y ∈ W', y ∈ W ∨ y = F := by
    have := settle_one (H := H) (W := W) (W1 := [F]) (B := F) (g := 0) (T := ty_Sint) (cs := [slI l]) (v := bo (decB d l)) (v' := bo (decB d l)) hFl (by simp) (fun m => rfl)
    rw [hH2]; exact this
  obtain ⟨W', hs, hw⟩ := hset
  refine ⟨W', CallR.evalW (m1 := { h := H2, wr := [F] }) (v := bo (decB d l)) rfl prog_tally_Ask_1 rfl ⟨c1 + c2, fun k hk => ?_⟩ (by rw [hH2] at hs ⊢; exact hs), hw⟩
  obtain ⟨S, hS⟩ : ∃ S, S = slI l := ⟨_, rfl⟩
  have hok : okV (.r S) = true ∧ AV.cells (.r S) = [.r S] := by
    rw [hS]; unfold slI gsV; split <;> exact ⟨rfl, rfl⟩
  obtain ⟨V, hV⟩ : ∃ V, V = allV d := ⟨_, rfl⟩
  rw [← hS] at k1 hH2
  rw [← hV] at hT2 k2
  have h1 := hok.1
  have h2 := hok.2
  simp only [okV, ok1] at h1
  simp only [AV.cells] at h2
  simp [runK, finK, a_tally_Ask_1, -okV, -ok1, -AV.cells, k1 k (by omega), hok, hF, ← hH2, hT2, k2 k (by omega)]
end
end Go.AM.T
/- What the functions compute (own work). -/
namespace Go.AM.T
open Go Go.AM
attribute [local simp] so_mov so_pick so_alloc so_box so_build so_slit so_load so_store so_nilc so_bin so_beq so_eqs so_eqn so_eqnl so_not so_conv so_s2b so_mkfn so_slcA so_padd so_fld so_idxA so_idxV so_idxT so_look so_mupd so_mkmap so_mksl so_ext so_app so_lenT so_lenM so_min so_max so_cpy so_clr so_mkif so_tass so_lenS so_idxS so_slc
attribute [local simp] dn_skip dn_label dn_ret dn_exit dn_scope dn_keep dn_reg dn_draw0 noSlots denE denEI stepE  sd_mov sd_pick sd_build sd_load sd_store sd_nilc sd_bin sd_beq sd_eqs sd_eqn sd_eqnl sd_not sd_conv sd_s2b sd_mkfn sd_slc sd_slcA sd_padd sd_fld sd_idxS sd_idxA sd_idxV sd_idxT sd_look sd_mupd sd_ext sd_app sd_lenS sd_lenT sd_lenM sd_min sd_max sd_mkif sd_tass sd_call sd_slit dn_seq dn_cond dn_block dn_loop kn_call denIs denI denOp wants ev eget putD binL enumFrom AV.bool? AV.int? ekeep evs evp runV fin runDefs resAll resOf tupOf unit AV.cells okV ok1 Value.oneCell' fill setN rcells rs_nil rs_cons load_own load_cons mkAgg_rs storeN jmpOut
attribute [local simp] dvL dv1t dvAt mkAgg2 dv0 dv1 dv2 dv3 dv4 dv5 dv6 dv7 dv8 dv9 dv10 dvA dvN dvAll C_fz fzr
section
variable {d : Div} {F T D Ch : Nat}
theorem may_nat {d : Div} : ∀ x ∈ doubtsL d, 0 ≤ x ∧ x < d.n := by
  intro x hx
  unfold doubtsL at hx
  obtain ⟨i, hi, rfl⟩ := List.mem_map.1 hx
  have := (List.mem_filter.1 hi).1
  simp at this
  omega
theorem one_loop (hd40 : d.n ≤ 40) (e : openI d = 0) {H : List Blk} (hFl : F < H.length) (hT : H[T]? = some (.cells [.r (allV d)] ty_Stally_told 1)) (hD : H[D]? = some (.cells [.r (slI (doubtsL d))] ty_Sint 1)) (hC : H[Ch]? = some (.cells [chV F T D Ch] ty_func_Sint_int_int_bool 0))
    (hFT : F ≠ T) (hFD : F ≠ D) (hFC : F ≠ Ch) :
    ∀ (k i : Nat) (s : St) (y : RV), i + k = (doubtsL d).length → ekeep [0, 2, 5, 6, 11] s.env = [(0, .r .nil), (2, i64 1), (5, .own D 1 0), (6, .own Ch 0 0), (11, i64 i)] → s.m.h.take H.length = H.set F (.cells [.r y] ty_Sint 0) → (∀ x ∈ s.m.wr, x = F ∨ H.length ≤ x) → s.defs = [] →
      ∃ s' o z, Loop C [0, 2, 5, 6, 11] l_tally_Ask_1_0 s o s' ∧ s'.m.h.take H.length = H.set F (.cells [.r z] ty_Sint 0) ∧ (∀ x ∈ s'.m.wr, x = F ∨ H.length ≤ x) ∧ s'.defs = [] ∧
        ((o = .ret ∧ eget s'.env 10 = bo true ∧ ∃ x, ((doubtsL d).drop i).find? (fun x => decB d [x]) = some x ∧ z = slI [x]) ∨ (o = .exit 0 ∧ ((doubtsL d).drop i).find? (fun x => decB d [x]) = none)) := by
  have hS : SlI (doubtsL d) (slI (doubtsL d)) := Sl.slI _
  have hlen : (doubtsL d).length ≤ 40 := by have := doubtsL_len d; omega
  intro k
  induction k with
  | zero =>
    intro i s y hi he hm hw hd
    obtain ⟨M, hMM⟩ : ∃ M, M = s.m := ⟨_, rfl⟩
    obtain ⟨Hc, W⟩ := M
    rw [← hMM] at hm hw
    simp only at hm hw
    have hD' : Hc[D]? = some (.cells [.r (slI (doubtsL d))] ty_Sint 1) := by rw [take_get hm (getElem?_lt hD), List.getElem?_set_ne hFD]; exact hD
    have e1 : ((i : Int) < ((doubtsL d).length : Int)) = False := eq_false (by omega)
    have : (doubtsL d).drop i = [] := List.drop_eq_nil_of_le (by omega)
    rw [this]
    exact ⟨_, .exit 0, y, .stop (.of fun K => by rw [he]; simp [l_tally_Ask_1_0, ← hMM, hD', hS.len, e1]; rfl) (by simp), by simp [hm], by simpa using hw, by simp [hd], .inr ⟨rfl, rfl⟩⟩
  | succ k ih =>
    intro i s y hi he hm hw hd
    obtain ⟨M, hMM⟩ : ∃ M, M = s.m := ⟨_, rfl⟩
    obtain ⟨Hc, W⟩ := M
    rw [← hMM] at hm hw
    simp only at hm hw
    have hcl : H.length ≤ Hc.length := by
      have := congrArg List.length hm
      rw [List.length_take, List.length_set] at this; omega
    have up : ∀ j b, j ≠ F → H[j]? = some b → Hc[j]? = some b := fun j b hj hb => by rw [take_get hm (getElem?_lt hb), List.getElem?_set_ne (Ne.symm hj)]; exact hb
    have hD' := up D _ (Ne.symm hFD) hD
    have hC' := up Ch _ (Ne.symm hFC) hC
    have hT' := up T _ (Ne.symm hFT) hT
    have hF' : Hc[F]? = some (.cells [.r y] ty_Sint 0) := by rw [take_get hm hFl, List.getElem?_set_self hFl]
    have hil : i < (doubtsL d).length := by omega
    have e1 : ((i : Int) < ((doubtsL d).length : Int)) = True := eq_true (by omega)
    have w1 : IntKind.wrap .i64 ((i : Int) + 1) = i + 1 := by rw [w64] <;> omega
    obtain ⟨x, hx⟩ : ∃ x, x = (doubtsL d)[i] := ⟨_, rfl⟩
    have hxr : 0 ≤ x ∧ x < 40 := by have := may_nat (d := d) x (by rw [hx]; exact List.getElem_mem hil); omega
    have hat := hS.at (sz := 1) hil
    have hld : ∀ m, loadV m (.r (.ptr ((ints .i64 (doubtsL d)).drop i))) 1 false = some (i64 x) := fun m => by rw [load_ints hil, hx]
    have hdrop : (doubtsL d).drop i = x :: (doubtsL d).drop (i + 1) := by rw [hx]; exact List.drop_eq_getElem_cons hil
    obtain ⟨H2, hH2⟩ : ∃ H2, H2 = Hc ++ [.cells [i64 x] ty_int 0] := ⟨_, rfl⟩
    have hA : appendA { h := Hc } ty_int 1 8 (.r .nil) (.r (.sl [.lit (.int .i64 x)] 1 (some 1))) = some (.osl Hc.length 0 0 1 1 none, { h := H2 }) := by
      unfold appendA
      simp [slCells, rs, roomOk, hH2]
    have hgetN : H2[Hc.length]? = some (.cells [i64 x] ty_int 0) := by simp [hH2]
    have up2 : ∀ j b, Hc[j]? = some b → H2[j]? = some b := fun j b hb => by rw [hH2, List.getElem?_append_left (getElem?_lt hb)]; exact hb
    have hCl := getElem?_lt hC'
    obtain ⟨W2, ⟨c1, k1⟩, hw2⟩ := choose_leaf (F := F) (T := T) (D := D) (Ch := Ch) (l := [x]) (d := d) (by simpa using hxr) (by simp) hd40 e (up2 _ _ hF') (up2 _ _ hT') hFT (v := .osl Hc.length 0 0 1 1 none) (.inr ⟨Hc.length, 0, ty_int, none, rfl, by rw [hgetN]; rfl, by simp⟩) (by
      intro j hj
      simp [avIdx] at hj
      omega) (i + 1) []
    have hw2' : ∀ z ∈ W2, z = F := fun z hz => by simpa using hw2 z hz
    have hap : apartL (wrAll Hc.length { h := H2 }) [Ch] = true := by
      unfold apartL wrAll
      rw [List.all_eq_true]
      intro z hz
      simp [hH2] at hz
      subst hz
      simp; omega
    have hPm : (H2.set F (.cells [.r (slI [x])] ty_Sint 0)).take H.length = H.set F (.cells [.r (slI [x])] ty_Sint 0) := by
      rw [List.take_set, hH2, List.take_append_of_le_length hcl, hm, List.set_set]
    obtain ⟨DV, hDV⟩ : ∃ DV, DV = slI (doubtsL d) := ⟨_, rfl⟩
    obtain ⟨DI, hDI⟩ : ∃ DI, DI = ints .i64 (doubtsL d) := ⟨_, rfl⟩
    have hln := hS.len
    rw [← hDV] at hD' hat hln
    rw [← hDI] at hat hld
    obtain ⟨cv, hcv⟩ : ∃ cv, cv = chV F T D Ch := ⟨_, rfl⟩
    rw [← hcv] at hC' k1
    obtain ⟨H3, hH3⟩ : ∃ H3, H3 = H2.set F (.cells [.r (slI [x])] ty_Sint 0) := ⟨_, rfl⟩
    rw [← hH3] at k1 hPm
    have hW : ∀ z ∈ W2 ++ W, z = F ∨ H.length ≤ z := fun z hz => by
      rcases List.mem_append.1 hz with h | h
      · exact .inl (hw2' z h)
      · exact hw z h
    have hk1 : ∀ n, c1 ≤ n → callN C n cv [.osl Hc.length 0 0 1 1 none, .r (.lit (.int .i64 ((i : Int) + 1))), i64 0] { h := H2 } = some (.ret (bo (decB d [x])) { h := H3, wr := W2 }) := k1
    cases hb : decB d [x] with
    | true =>
      rw [hb] at hk1
      refine ⟨_, .ret, slI [x], .stop (.ofN ⟨c1, fun n hn => by
        rw [he]
        simp [l_tally_Ask_1_0, dn_drawF, denF, denFI, stepF, slotFree, slotOf, foot, avIdx, pairsOk, apartL_nil, wrAll_self, hap, ← hMM, hD', hln, e1, hC', hat, hld, allR, AV.toR, repl, hA, w1, wk0, hk1 n hn]
        rfl⟩) (by simp), ?_, ?_, by simp [hd], .inl ⟨rfl, by simp, x, ?_, rfl⟩⟩
      · simpa using hPm
      · simpa using hW
      · rw [hdrop, List.find?_cons, hb]
    | false =>
      rw [hb] at hk1
      obtain ⟨s', o, z, h1, h2, h3, h4, h5⟩ := ih (i + 1) { s with env := [(0, .r .nil), (2, i64 1), (5, .own D 1 0), (6, .own Ch 0 0), (11, i64 (i + 1 : Nat))], m := { h := H3, wr := W2 ++ W } } (slI [x]) (by omega) (by simp) hPm hW hd
      refine ⟨s', o, z, .more (.ofN ⟨c1, fun n hn => ?_⟩) h1, h2, h3, h4, ?_⟩
      · rw [he]
        simp [l_tally_Ask_1_0, dn_drawF, denF, denFI, stepF, slotFree, slotOf, foot, avIdx, pairsOk, apartL_nil, wrAll_self, hap, ← hMM, hD', hln, e1, hC', hat, hld, allR, AV.toR, repl, hA, w1, wk0, hk1 n hn]
      · rw [hdrop, List.find?_cons, hb]; exact h5
/-- All single members are tried. -/
theorem choose_one (hd40 : d.n ≤ 40) (e : openI d = 0) {H : List Blk} {x : RV} (hF : H[F]? = some (.cells [.r x] ty_Sint 0)) (hT : H[T]? = some (.cells [.r (allV d)] ty_Stally_told 1)) (hD : H[D]? = some (.cells [.r (slI (doubtsL d))] ty_Sint 1)) (hC : H[Ch]? = some (.cells [chV F T D Ch] ty_func_Sint_int_int_bool 0))
    (hFT : F ≠ T) (hFD : F ≠ D) (hFC : F ≠ Ch) (W : List Nat) :
    ∃ W' z, CallR C (chV F T D Ch) [.r .nil, i64 0, i64 1] { h := H, wr := W } (.ret (bo ((doubtsL d).find? fun x => decB d [x]).isSome) { h := H.set F (.cells [.r z] ty_Sint 0), wr := W' }) ∧ (∀ y ∈ W', y ∈ W ∨ y = F) ∧ ∀ x, (doubtsL d).find? (fun x => decB d [x]) = some x → z = slI [x] := by
  have hFl := getElem?_lt hF
  obtain ⟨s, o, z, l1, h2, h3, h4, h5⟩ := one_loop hd40 e hFl hT hD hC hFT hFD hFC (doubtsL d).length 0 { env := [(0, .r .nil), (2, i64 1), (5, .own D 1 0), (6, .own Ch 0 0), (11, i64 0)], m := { h := H } } x (by omega) (by simp) (by simp [set_same hF]) (by simp) rfl
  rw [List.drop_zero] at h5
  obtain ⟨c1, k1⟩ := l1.get
  obtain ⟨Hc, W1, hsm⟩ : ∃ Hc W1, s.m = { h := Hc, wr := W1 } := ⟨_, _, rfl⟩
  rw [hsm] at h2 h3
  simp only at h2 h3
  have hset : ∀ b : Bool, ∃ W', Go.AM.settle C.fz (C.keepAll fn_tally_Ask_1) { h := H, wr := W } (bo b) { h := Hc, wr := W1 } = (bo b, { h := H.set F (.cells [.r z] ty_Sint 0), wr := W' }) ∧ ∀ y ∈ W', y ∈ W ∨ y = F := by
    intro b
    refine ⟨oldWr H.length W1 ++ W, ?_, fun y hy => ?_⟩
    · rw [show C.keepAll fn_tally_Ask_1 = false from rfl, settle_w (v' := bo b) rfl]
      · show _ = (bo b, Mem.mk (H.set F _) _)
        rw [← h2]
      · intro j hj hjl q hq
        simp only at hq hjl
        have : j = F := by rcases h3 j hj with h | h <;> omega
        subst this
        rw [take_get h2 hFl, List.getElem?_set_self hFl] at hq
        cases hq; rfl
    · rcases List.mem_append.1 hy with hy | hy
      · unfold oldWr at hy
        obtain ⟨q1, q2⟩ := List.mem_filter.1 hy
        have q2 : y < H.length := by simpa using q2
        rcases h3 y q1 with h | h
        · exact .inr h
        · omega
      · exact .inl hy
  rcases h5 with ⟨rfl, h5, x', h6, h7⟩ | ⟨rfl, h6⟩
  · obtain ⟨W', hs, hw⟩ := hset true
    refine ⟨W', z, CallR.evalW (m1 := { h := Hc, wr := W1 }) (v := bo true) rfl prog_tally_Ask_1 rfl ⟨c1, fun k hk => ?_⟩ (by rw [h6]; exact hs), hw, fun y hy => by rw [h6] at hy; cases hy; exact h7⟩
    simp [runK, finK, a_tally_Ask_1, k1 k hk, h5, h4, hsm]
  · obtain ⟨W', hs, hw⟩ := hset false
    refine ⟨W', z, CallR.evalW (m1 := { h := Hc, wr := W1 }) (v := bo false) rfl prog_tally_Ask_1 rfl ⟨c1, fun k hk => ?_⟩ (by rw [h6]; exact hs), hw, fun y hy => by rw [h6] at hy; cases hy⟩
    simp [runK, finK, a_tally_Ask_1, k1 k hk, h4, hsm]
end
end Go.AM.T
/- What the functions compute (own work). -/
namespace Go.AM.T
open Go Go.AM
attribute [local simp] so_mov so_pick so_alloc so_box so_build so_slit so_load so_store so_nilc so_bin so_beq so_eqs so_eqn so_eqnl so_not so_conv so_s2b so_mkfn so_slcA so_padd so_fld so_idxA so_idxV so_idxT so_look so_mupd so_mkmap so_mksl so_ext so_app so_lenT so_lenM so_min so_max so_cpy so_clr so_mkif so_tass so_lenS so_idxS so_slc
attribute [local simp] dn_skip dn_label dn_ret dn_exit dn_scope dn_keep dn_reg dn_draw0 noSlots denE denEI stepE  sd_mov sd_pick sd_build sd_load sd_store sd_nilc sd_bin sd_beq sd_eqs sd_eqn sd_eqnl sd_not sd_conv sd_s2b sd_mkfn sd_slc sd_slcA sd_padd sd_fld sd_idxS sd_idxA sd_idxV sd_idxT sd_look sd_mupd sd_ext sd_app sd_lenS sd_lenT sd_lenM sd_min sd_max sd_mkif sd_tass sd_call sd_slit dn_seq dn_cond dn_block dn_loop kn_call denIs denI denOp wants ev eget putD binL enumFrom AV.bool? AV.int? ekeep evs evp runV fin runDefs resAll resOf tupOf unit AV.cells okV ok1 Value.oneCell' fill setN rcells rs_nil rs_cons load_own load_cons mkAgg_rs storeN jmpOut
attribute [local simp] dvL dv1t dvAt mkAgg2 dv0 dv1 dv2 dv3 dv4 dv5 dv6 dv7 dv8 dv9 dv10 dvA dvN dvAll C_fz fzr
theorem sd_slot (K : Kit) (base : Nat) (e : Env) (h : List Blk) (k : Nat) (t : TypeId) (z : List RV) : stepD K base e h (.slot k t z) = match h[base + k]? with
    | some .dead => some (.own (base + k) 1 0, { h := h.set (base + k) (.cells (rs z) t 1), wr := [base + k] })
    | _ => none := rfl
section
variable {d : Div} {a0 a1 n0 n1 p q : RV}
/-- The least question, where one member is enough. -/
theorem Ask_one (hs : DivS d a0 a1 n0 n1 p q) (hb : Small d) (hru : 0 ≤ d.rule ∧ d.rule ≤ 255) (e : openI d = 0) (h2 : 2 ≤ (doubtsL d).length) (h0 : decB d [] = false) {x : Int} (hx : (doubtsL d).find? (fun x => decB d [x]) = some x) (m : Mem) :
    CallR C (fnv fn_tally_Ask) [.r (.agg (divC d a0 a1 n0 n1 p q))] m (.ret (.tup [.r (slI [x]), i64 0]) m) := by
  obtain ⟨R, hRR⟩ : ∃ R, R = lookC d (divC d a0 a1 n0 n1 p q) := ⟨_, rfl⟩
  have lR : R.length = 91 := by rw [hRR]; exact lookC_len
  have hRt : List.take 91 (rs R) = rs R := List.take_of_length_le (by rw [rs_len]; omega)
  obtain ⟨Z, hZ⟩ : ∃ Z, Z = z_tally_looked := ⟨_, rfl⟩
  have hZl : Z.length = 91 := by rw [hZ]; rfl
  have hZd : List.drop 91 (rs Z) = [] := List.drop_eq_nil_of_le (by rw [rs_len]; omega)
  have hd11 : (divC d a0 a1 n0 n1 p q).length = 11 := rfl
  obtain ⟨hr, -, -⟩ := openI0 e
  have hn := right_n hr
  obtain ⟨c1, k1⟩ := topen_spec hs hb hru { h := m.h ++ [.cells (rs (divC d a0 a1 n0 n1 p q)) ty_tally_Division 0] }
  rw [if_pos e, e, ← hRR] at k1
  obtain ⟨c2, k2⟩ := doubts_spec (d := d) (a0 := a0) (a1 := a1) (n0 := n0) (n1 := n1) (p := p) (q := q) hn { h := m.h ++ [.cells (rs (divC d a0 a1 n0 n1 p q)) ty_tally_Division 0, .cells (rs R) ty_tally_looked 0, .dead, .dead] }
  obtain ⟨c3, k3⟩ := all_told_spec hs hru.1 e { h := m.h ++ [.cells (rs (divC d a0 a1 n0 n1 p q)) ty_tally_Division 0, .cells (rs R) ty_tally_looked 0, .dead, .dead] }
  rw [← hRR] at k2 k3
  obtain ⟨D, hD⟩ : ∃ D, D = divC d a0 a1 n0 n1 p q := ⟨_, rfl⟩
  rw [← hD] at k1 k2 k3 hd11 ⊢
  have hDt : List.take 11 (rs D) = rs D := List.take_of_length_le (by rw [rs_len]; omega)
  obtain ⟨F, hF⟩ : ∃ F, F = m.h.length + 4 := ⟨_, rfl⟩
  obtain ⟨H, hH⟩ : ∃ H, H = m.h ++ [.cells (rs D) ty_tally_Division 0, .cells (rs R) ty_tally_looked 0, .cells [.r (slI (doubtsL d))] ty_Sint 1, .cells [.r (allV d)] ty_Stally_told 1, .cells [.r .nil] ty_Sint 0, .cells [chV (m.h.length + 4) (m.h.length + 3) (m.h.length + 2) (m.h.length + 5)] ty_func_Sint_int_int_bool 0] := ⟨_, rfl⟩
  have g2 : H[m.h.length + 2]? = some (.cells [.r (slI (doubtsL d))] ty_Sint 1) := by rw [hH, get_midk]; rfl
  have g3 : H[m.h.length + 3]? = some (.cells [.r (allV d)] ty_Stally_told 1) := by rw [hH, get_midk]; rfl
  have g4 : H[m.h.length + 4]? = some (.cells [.r .nil] ty_Sint 0) := by rw [hH, get_midk]; rfl
  have g5 : H[m.h.length + 5]? = some (.cells [chV (m.h.length + 4) (m.h.length + 3) (m.h.length + 2) (m.h.length + 5)] ty_func_Sint_int_int_bool 0) := by rw [hH, get_midk]; rfl
  obtain ⟨W1, ⟨c4, k4⟩, hw1⟩ := choose_leaf (F := m.h.length + 4) (T := m.h.length + 3) (D := m.h.length + 2) (Ch := m.h.length + 5) (l := []) (d := d) (by simp) (by simp) hn.2 e g4 g3 (by omega) (v := .r .nil) (.inl ⟨rfl, rfl⟩) (by simp [avIdx]) 0 [m.h.length + 5, m.h.length + 3, m.h.length + 2, m.h.length + 3, m.h.length + 2, m.h.length + 1]
  rw [h0] at k4
  obtain ⟨H2, hH2⟩ : ∃ H2, H2 = H.set (m.h.length + 4) (.cells [.r (slI [])] ty_Sint 0) := ⟨_, rfl⟩
  rw [← hH2] at k4
  have f2 : H2[m.h.length + 2]? = some (.cells [.r (slI (doubtsL d))] ty_Sint 1) := by rw [hH2, List.getElem?_set_ne (by omega)]; exact g2
  have f3 : H2[m.h.length + 3]? = some (.cells [.r (allV d)] ty_Stally_told 1) := by rw [hH2, List.getElem?_set_ne (by omega)]; exact g3
  have f4 : H2[m.h.length + 4]? = some (.cells [.r (slI [])] ty_Sint 0) := by rw [hH2, List.getElem?_set_self (getElem?_lt g4)]
  have f5 : H2[m.h.length + 5]? = some (.cells [chV (m.h.length + 4) (m.h.length + 3) (m.h.length + 2) (m.h.length + 5)] ty_func_Sint_int_int_bool 0) := by rw [hH2, List.getElem?_set_ne (by omega)]; exact g5
  obtain ⟨W2, z, ⟨c5, k5⟩, hw2, hz⟩ := choose_one (x := slI []) hn.2 e f4 f3 f2 f5 (by omega) (by omega) (by omega) W1
  rw [hx] at k5
  have hz := hz x hx
  rw [hz] at k5
  obtain ⟨H3, hH3⟩ : ∃ H3, H3 = H2.set (m.h.length + 4) (.cells [.r (slI [x])] ty_Sint 0) := ⟨_, rfl⟩
  rw [← hH3] at k5
  have i4 : H3[m.h.length + 4]? = some (.cells [.r (slI [x])] ty_Sint 0) := by rw [hH3, List.getElem?_set_self (getElem?_lt f4)]
  have e1 : (0 < ((doubtsL d).length : Int)) = True := eq_true (by omega)
  have e2 : (1 < ((doubtsL d).length : Int)) = True := eq_true (by omega)
  have e1' : (0 < (doubtsL d).length) = True := eq_true (by omega)
  have e2' : (1 < (doubtsL d).length) = True := eq_true (by omega)
  have hl := (Sl.slI (doubtsL d)).len
  have ht : H3.take m.h.length = m.h := by rw [hH3, List.take_set_of_le (by omega), hH2, List.take_set_of_le (by omega), hH]; simp
  have hxs : slI [x] = .sl [.lit (.int .i64 x)] 1 none := rfl
  obtain ⟨DI, n, hDV⟩ : ∃ DI n, slI (doubtsL d) = .sl DI n none := ⟨ints .i64 (doubtsL d), (doubtsL d).length, by unfold slI gsV; rw [if_neg (by omega)]⟩
  obtain ⟨TC, tn, hV⟩ : ∃ TC tn, allV d = .sl TC tn none := ⟨_, _, rfl⟩
  rw [hDV] at hl k2 g2 f2 hH
  rw [hV] at k3 g3 f3 hH
  have hwr : ∀ y ∈ W2, m.h.length ≤ y := fun y hy => by
    rcases hw2 y hy with h | rfl
    · rcases hw1 y h with h | rfl
      · simp at h; omega
      · omega
    · omega
  simp only [chV] at hH k4 k5 g5 f5
  refine CallR.eval (m1 := { h := H3, wr := W2 }) rfl rfl prog_tally_Ask rfl ⟨c1 + c2 + c3 + c4 + c5 + 5, fun k hk => ?_⟩ ht hwr
  obtain ⟨j, rfl⟩ : ∃ j, k = j + 5 := ⟨k - 5, by omega⟩
  have l21 : m.h.length + 2 + 1 = m.h.length + 3 := rfl
  simp [a_tally_Ask, l21, dn_drawF, sd_slot, denF, denFI, stepF, slotFree, slotOf, foot, avIdx, wrAll, pairsOk, apartL, ← hZ, hd11, hDt, rs_len, hZl, hZd, lR, hRt, k1 (j + 5) (by omega), k2 (j + 5) (by omega), k3 (j + 5) (by omega), allR, AV.toR, ← hH, goLoop, kn_iter, iterN, l_tally_Ask_0, g2, g5, f2, f5, i4, hl, e1, e2, e1', e2', wk0, wk1, k4 (j + 5) (by omega), k5 (j + 5) (by omega), hxs, fz, fzs]
end
end Go.AM.T
/- What the functions compute (own work). -/
namespace Go.AM.T
open Go Go.AM
attribute [local simp] so_mov so_pick so_alloc so_box so_build so_slit so_load so_store so_nilc so_bin so_beq so_eqs so_eqn so_eqnl so_not so_conv so_s2b so_mkfn so_slcA so_padd so_fld so_idxA so_idxV so_idxT so_look so_mupd so_mkmap so_mksl so_ext so_app so_lenT so_lenM so_min so_max so_cpy so_clr so_mkif so_tass so_lenS so_idxS so_slc
attribute [local simp] dn_skip dn_label dn_ret dn_exit dn_scope dn_keep dn_reg dn_draw0 noSlots denE denEI stepE  sd_mov sd_pick sd_build sd_load sd_store sd_nilc sd_bin sd_beq sd_eqs sd_eqn sd_eqnl sd_not sd_conv sd_s2b sd_mkfn sd_slc sd_slcA sd_padd sd_fld sd_idxS sd_idxA sd_idxV sd_idxT sd_look sd_mupd sd_ext sd_app sd_lenS sd_lenT sd_lenM sd_min sd_max sd_mkif sd_tass sd_call sd_slit dn_seq dn_cond dn_block dn_loop kn_call denIs denI denOp wants ev eget putD binL enumFrom AV.bool? AV.int? ekeep evs evp runV fin runDefs resAll resOf tupOf unit AV.cells okV ok1 Value.oneCell' fill setN rcells rs_nil rs_cons load_own load_cons mkAgg_rs storeN jmpOut
attribute [local simp] dvL dv1t dvAt mkAgg2 dv0 dv1 dv2 dv3 dv4 dv5 dv6 dv7 dv8 dv9 dv10 dvA dvN dvAll C_fz fzr
def il (l : List Int) : RV := .sl (ints .i64 l) l.length (some l.length)
def ul (l : List Int) : RV := .sl (ints .u8 l) l.length (some l.length)
def pl (l : List (Int × Int)) : RV := .sl (prs l) l.length (some l.length)
/-- The division of the document's examples. -/
def lobD : Div := ⟨6, [0, 1, 2], [0, 1, 3], [4, 5], [4, 5], [], [(4, 3)], 0, 0, 3, 2⟩
def lobC : List RV := divC lobD (il [0, 1, 2]) (il [0, 1, 3]) (il [4, 5]) (il [4, 5]) .nil (pl [(4, 3)])
theorem il_S (l : List Int) : SlI l (il l) := Sl.mk _ _ _
theorem pl_S (l : List (Int × Int)) : SlP l (pl l) := Sl.mk _ _ _
theorem lobS : DivS lobD (il [0, 1, 2]) (il [0, 1, 3]) (il [4, 5]) (il [4, 5]) .nil (pl [(4, 3)]) := ⟨il_S _, il_S _, il_S _, il_S _, Sl.nil, pl_S _⟩
theorem lobbies_spec (m : Mem) : CallR C (fnv fn_law07_lobbies) [] m (.ret (.r (.agg lobC)) m) := by
  refine CallR.eval (m1 := { h := m.h ++ [.cells (rs lobC) ty_tally_Division 0], wr := [m.h.length] }) rfl rfl prog_law07_lobbies rfl ⟨0, fun k hk => ?_⟩ (by simp) (by simp)
  simp [a_law07_lobbies, allR, AV.toR, mkAgg, repl, lobC, divC, il, pl, ints, prs, lobD]
theorem lobOpen : openI lobD = 0 := by kernel_rfl
theorem lobDoubts : doubtsL lobD = [2, 3] := by kernel_rfl
theorem lobBn : (bnL lobD).a = (2, 4) ∧ (bnL lobD).b = (2, 3) := ⟨by kernel_rfl, by kernel_rfl⟩
theorem lobAl : alS lobD = [0, 1] := by kernel_rfl
theorem lobDec0 : decB lobD [] = false := by kernel_rfl
theorem lobDec1 : (doubtsL lobD).find? (fun x => decB lobD [x]) = some 3 := by kernel_rfl
theorem lobSmall : Small lobD := ⟨by decide, by decide, by decide, by decide, by decide, by decide⟩
theorem lobRule : 0 ≤ lobD.rule ∧ lobD.rule ≤ 255 := by decide
/-- The law's examples hold, whatever memory holds. -/
theorem wakes_spec (m : Mem) : CallR C (fnv fn_law07_wakes) [] m (.ret (bo true) m) := by
  have hf : faultI lobD = 0 := by kernel_rfl
  obtain ⟨c1, k1⟩ := lobbies_spec { h := m.h }
  obtain ⟨c2, k2⟩ := Doubts_spec lobS lobSmall lobRule { h := m.h }
  obtain ⟨c3, k3⟩ := Bounds_spec lobS lobSmall lobRule { h := m.h }
  obtain ⟨H, hH⟩ : ∃ H, H = m.h ++ [.cells [i64 2, i64 4] ty_tally_Range 0, .cells [i64 2, i64 3] ty_tally_Range 0] := ⟨_, rfl⟩
  obtain ⟨c4, k4⟩ := lobbies_spec { h := H, wr := [m.h.length + 1, m.h.length] }
  obtain ⟨c5, k5⟩ := Allowed_spec lobS lobSmall lobRule { h := H, wr := [m.h.length + 1, m.h.length] }
  obtain ⟨c6, k6⟩ := Ask_one lobS lobSmall lobRule lobOpen (by rw [lobDoubts]; decide) lobDec0 lobDec1 { h := H, wr := [m.h.length + 1, m.h.length] }
  rw [if_pos hf, hf, lobDoubts] at k2
  rw [if_pos lobOpen, if_pos lobOpen, lobOpen, lobBn.1, lobBn.2] at k3
  rw [if_pos lobOpen, lobOpen, lobAl] at k5
  have g0 : H[m.h.length]? = some (.cells [i64 2, i64 4] ty_tally_Range 0) := by simp [hH]
  have g1 : H[m.h.length + 1]? = some (.cells [i64 2, i64 3] ty_tally_Range 0) := by simp [hH]
  obtain ⟨c7, k7⟩ := law07_ints_spec (Sl.slI [2, 3]) (il_S [2, 3]) (by decide) { h := H, wr := [m.h.length + 1, m.h.length] }
  obtain ⟨c8, k8⟩ := law07_ints_spec (Sl.slI [3]) (il_S [3]) (by decide) { h := H, wr := [m.h.length + 1, m.h.length] }
  obtain ⟨c9, k9⟩ := law07_votes_spec (l := [0, 1]) (k := [0, 1]) (v := .sl (ints .u8 [0, 1]) 2 none) (w := .sl (ints .u8 [0, 1]) 2 (some 2)) (Sl.mk _ _ _) (Sl.mk _ _ _) (by decide) { h := H, wr := [m.h.length + 1, m.h.length] }
  obtain ⟨Lc, hLc⟩ : ∃ Lc, Lc = lobC := ⟨_, rfl⟩
  rw [show divC lobD (il [0, 1, 2]) (il [0, 1, 3]) (il [4, 5]) (il [4, 5]) .nil (pl [(4, 3)]) = lobC from rfl, ← hLc] at k2 k3 k5 k6
  rw [← hLc] at k1 k4
  have ht : H.take m.h.length = m.h := by simp [hH]
  refine CallR.eval (m1 := { h := H, wr := [m.h.length + 1, m.h.length] }) rfl rfl prog_law07_wakes rfl ⟨c1 + c2 + c3 + c4 + c5 + c6 + c7 + c8 + c9, fun k hk => ?_⟩ ht (by simp)
  have k7 := k7 k (by omega)
  have k8 := k8 k (by omega)
  have k9 := k9 k (by omega)
  simp [slI, gsV, ints, il] at k7 k8 k9
  have k2 := k2 k (by omega)
  have k3 := k3 k (by omega)
  have k5 := k5 k (by omega)
  have k6 := k6 k (by omega)
  simp [slI, gsV, ints, nmR] at k2 k3 k5 k6
  simp [a_law07_wakes, k1 k (by omega), k2, k3, k4 k (by omega), k5, k6, ← hH, allR, AV.toR, repl, mkAgg, k7, k8, k9, g0, g1, rvEqs, rvEq]
end Go.AM.T
/- What the functions compute (own work). -/
namespace Go.AM.T
open Go Go.AM
attribute [local simp] so_mov so_pick so_alloc so_box so_build so_slit so_load so_store so_nilc so_bin so_beq so_eqs so_eqn so_eqnl so_not so_conv so_s2b so_mkfn so_slcA so_padd so_fld so_idxA so_idxV so_idxT so_look so_mupd so_mkmap so_mksl so_ext so_app so_lenT so_lenM so_min so_max so_cpy so_clr so_mkif so_tass so_lenS so_idxS so_slc
attribute [local simp] dn_skip dn_label dn_ret dn_exit dn_scope dn_keep dn_reg dn_draw0 noSlots denE denEI stepE  sd_mov sd_pick sd_build sd_load sd_store sd_nilc sd_bin sd_beq sd_eqs sd_eqn sd_eqnl sd_not sd_conv sd_s2b sd_mkfn sd_slc sd_slcA sd_padd sd_fld sd_idxS sd_idxA sd_idxV sd_idxT sd_look sd_mupd sd_ext sd_app sd_lenS sd_lenT sd_lenM sd_min sd_max sd_mkif sd_tass sd_call sd_slit dn_seq dn_cond dn_block dn_loop kn_call denIs denI denOp wants ev eget putD binL enumFrom AV.bool? AV.int? ekeep evs evp runV fin runDefs resAll resOf tupOf unit AV.cells okV ok1 Value.oneCell' fill setN rcells rs_nil rs_cons load_own load_cons mkAgg_rs storeN jmpOut
attribute [local simp] dvL dv1t dvAt mkAgg2 dv0 dv1 dv2 dv3 dv4 dv5 dv6 dv7 dv8 dv9 dv10 dvA dvN dvAll C_fz fzr
theorem tg_pad (u : List Int) (i : Nat) : tg (pad u) i = tg u i := by
  unfold tg pad
  rw [List.getD_eq_getElem?_getD, List.getD_eq_getElem?_getD]
  by_cases h : i < u.length
  · rw [List.getElem?_append_left h]
  · rw [List.getElem?_append_right (by omega), List.getElem?_eq_none (by omega : u.length ≤ i)]
    by_cases h2 : i - u.length < 40 - u.length
    · rw [List.getElem?_replicate, if_pos h2]; rfl
    · rw [List.getElem?_replicate, if_neg h2]
theorem nums_pad (d : Div) (u : List Int) : numsL d (pad u) = numsL d u := by
  have h1 : memStep d (pad u) = memStep d u := by
    funext n i; unfold memStep; rw [tg_pad]
  have h2 : proxStep d (pad u) = proxStep d u := by
    funext n x; unfold proxStep; rw [tg_pad, tg_pad]
  unfold numsL numsM
  rw [h1, h2]
/-- What the law reckons: both ranges, out of numbers. -/
def lwStep (s : (Int × Int) × (Int × Int)) (n : Int × Int) : (Int × Int) × (Int × Int) := ((mn s.1.1 n.1, mx s.1.2 n.1), (mn s.2.1 n.2, mx s.2.2 n.2))
def lw0 (n : Int × Int) : (Int × Int) × (Int × Int) := ((n.1, n.1), (n.2, n.2))
def lwL : List (Int × Int) → (Int × Int) × (Int × Int)
  | [] => ((0, 0), (0, 0))
  | n :: l => l.foldl lwStep (lw0 n)
theorem bn_lw (d : Div) : ∀ (l : List (List Int)) (s : Bn), s.first = false → (s.a.1 ≤ s.last.1 ∧ s.last.1 ≤ s.a.2) → (s.b.1 ≤ s.last.2 ∧ s.last.2 ≤ s.b.2) →
    (foldS (bnStep d) s l).1.a = ((l.map (numsL d)).foldl lwStep (s.a, s.b)).1 ∧ (foldS (bnStep d) s l).1.b = ((l.map (numsL d)).foldl lwStep (s.a, s.b)).2
  | [], s, _, _, _ => ⟨rfl, rfl⟩
  | t :: l, s, hf, ha, hb => by
    rw [foldS_cons, if_pos (bnStep_2 d s t), List.map_cons, List.foldl_cons]
    have hs : (bnStep d s t).1 = ⟨false, (mn s.a.1 (numsL d t).1, mx s.a.2 (numsL d t).1), (mn s.b.1 (numsL d t).2, mx s.b.2 (numsL d t).2), numsL d t⟩ := by
      unfold bnStep
      rw [if_neg (by simp [hf])]
      split
      · rename_i e
        rw [e]
        have h1 : mn s.a.1 s.last.1 = s.a.1 := by unfold mn; split <;> omega
        have h2 : mx s.a.2 s.last.1 = s.a.2 := by unfold mx; split <;> omega
        have h3 : mn s.b.1 s.last.2 = s.b.1 := by unfold mn; split <;> omega
        have h4 : mx s.b.2 s.last.2 = s.b.2 := by unfold mx; split <;> omega
        rw [h1, h2, h3, h4]
      · rfl
    have ih := bn_lw d l (bnStep d s t).1 (by rw [hs]) (by
      rw [hs]; simp only [mn, mx]
      constructor <;> split <;> omega) (by
      rw [hs]; simp only [mn, mx]
      constructor <;> split <;> omega)
    rw [hs] at ih ⊢
    exact ih
theorem bnL_lw {d : Div} (ho : openI d = 0) : (bnL d).a = (lwL ((rtOf d).map (numsL d))).1 ∧ (bnL d).b = (lwL ((rtOf d).map (numsL d))).2 := by
  have hn := right_n (openI0 ho).1
  have hne := truthsOf_ne ho
  unfold bnL
  have hm : (rtOf d).map (numsL d) = (truthsOf d).map (numsL d) := by
    rw [truthsOf_rt hn.2, List.map_map]
    refine List.map_congr_left fun u _ => ?_
    show _ = numsL d (pad u)
    rw [nums_pad]
  rw [hm]
  cases ht : truthsOf d with
  | nil => exact absurd ht hne
  | cons t l =>
    rw [foldS_cons, if_pos (bnStep_2 d _ t), List.map_cons]
    have hs : (bnStep d bn0 t).1 = ⟨false, ((numsL d t).1, (numsL d t).1), ((numsL d t).2, (numsL d t).2), numsL d t⟩ := by unfold bnStep bn0; rfl
    have := bn_lw d l (bnStep d bn0 t).1 (by rw [hs]) (by rw [hs]; exact ⟨Int.le_refl _, Int.le_refl _⟩) (by rw [hs]; exact ⟨Int.le_refl _, Int.le_refl _⟩)
    rw [hs] at this ⊢
    exact this
theorem rt_ok {d : Div} : ∀ u ∈ rtOf d, u.length = d.n.toNat ∧ VOk u := fun u hu => ⟨by have := rtF_len _ _ _ hu; simpa using this, rtF_ok _ _ _ (by simp [VOk]) hu⟩
theorem rtOf_ne {d : Div} (ho : openI d = 0) : rtOf d ≠ [] := by
  have h := truthsOf_ne ho
  rw [truthsOf_rt (right_n (openI0 ho).1).2] at h
  simpa using h
theorem find_range {α : Type} (l : List α) (x0 : α) (p : α → Bool) : l.find? p = ((List.range l.length).find? fun j => p (l.getD j x0)).map fun j => l.getD j x0 := by
  induction l with
  | nil => rfl
  | cons x l ih =>
    rw [List.find?_cons, List.length_cons, List.range_succ_eq_map, List.find?_cons]
    have h0 : (x :: l).getD 0 x0 = x := rfl
    rw [h0]
    cases hp : p x with
    | true => rfl
    | false =>
      rw [ih, List.find?_map]
      have : ((fun j => p ((x :: l).getD j x0)) ∘ Nat.succ) = fun j => p (l.getD j x0) := by funext j; rfl
      rw [this, Option.map_map]
      rfl
theorem any_range {α : Type} (l : List α) (x0 : α) (p : α → Bool) : ((List.range l.length).any fun j => p (l.getD j x0)) = l.any p := by
  have h := find_range l x0 p
  have e1 : (l.find? p).isSome = l.any p := by rw [Bool.eq_iff_iff, List.find?_isSome, List.any_eq_true]
  have e2 : ((List.range l.length).find? fun j => p (l.getD j x0)).isSome = (List.range l.length).any fun j => p (l.getD j x0) := by rw [Bool.eq_iff_iff, List.find?_isSome, List.any_eq_true]
  rw [← e1, ← e2, h]; simp
theorem alL_rt {d : Div} (h : d.n ≤ 40) (o : Int) : (alL d).contains o = (rtOf d).any fun u => outcomeI d (numsL d u) == o := by
  rw [Bool.eq_iff_iff, List.any_eq_true]
  rw [List.contains_iff_mem, alL_mem, truthsOf_rt h]
  constructor
  · rintro ⟨t, ht, e⟩
    obtain ⟨u, hu, rfl⟩ := List.mem_map.1 ht
    exact ⟨u, hu, by rw [nums_pad] at e; simp [e]⟩
  · rintro ⟨u, hu, e⟩
    exact ⟨pad u, List.mem_map.2 ⟨u, hu, rfl⟩, by rw [nums_pad]; simpa using e⟩
theorem openI_1 (d : Div) : openI d = 1 ↔ rightB d = false := by
  unfold openI faultI
  cases rightB d with
  | false => simp
  | true =>
    cases (clashB d).isSome with
    | true => simp
    | false => by_cases h : 8 < (doubtsL d).length <;> simp [h]
end Go.AM.T
/- What the functions compute (own work). -/
namespace Go.AM.T
open Go Go.AM
attribute [local simp] so_mov so_pick so_alloc so_box so_build so_slit so_load so_store so_nilc so_bin so_beq so_eqs so_eqn so_eqnl so_not so_conv so_s2b so_mkfn so_slcA so_padd so_fld so_idxA so_idxV so_idxT so_look so_mupd so_mkmap so_mksl so_ext so_app so_lenT so_lenM so_min so_max so_cpy so_clr so_mkif so_tass so_lenS so_idxS so_slc
attribute [local simp] dn_skip dn_label dn_ret dn_exit dn_scope dn_keep dn_reg dn_draw0 noSlots denE denEI stepE  sd_mov sd_pick sd_build sd_load sd_store sd_nilc sd_bin sd_beq sd_eqs sd_eqn sd_eqnl sd_not sd_conv sd_s2b sd_mkfn sd_slc sd_slcA sd_padd sd_fld sd_idxS sd_idxA sd_idxV sd_idxT sd_look sd_mupd sd_ext sd_app sd_lenS sd_lenT sd_lenM sd_min sd_max sd_mkif sd_tass sd_call sd_slit dn_seq dn_cond dn_block dn_loop kn_call denIs denI denOp wants ev eget putD binL enumFrom AV.bool? AV.int? ekeep evs evp runV fin runDefs resAll resOf tupOf unit AV.cells okV ok1 Value.oneCell' fill setN rcells rs_nil rs_cons load_own load_cons mkAgg_rs storeN jmpOut
attribute [local simp] dvL dv1t dvAt mkAgg2 dv0 dv1 dv2 dv3 dv4 dv5 dv6 dv7 dv8 dv9 dv10 dvA dvN dvAll C_fz fzr
theorem has_u8 {x : RV} (h : Has (.int .u8) [x]) : ∃ n, x = .lit (.int .u8 n) ∧ (0 ≤ n ∧ n ≤ 255) := by
  obtain ⟨n, e, w⟩ := has_int h
  cases e
  have e1 : IntKind.min .u8 = 0 := by decide
  have e2 : IntKind.max .u8 = 255 := by decide
  exact ⟨n, rfl, by simpa [Lit.wf, e1, e2] using w⟩
theorem has_u32 {x : RV} (h : Has (.int .u32) [x]) : ∃ n, x = .lit (.int .u32 n) ∧ (0 ≤ n ∧ n ≤ 4294967295) := by
  obtain ⟨n, e, w⟩ := has_int h
  cases e
  have e1 : IntKind.min .u32 = 0 := by decide
  have e2 : IntKind.max .u32 = 4294967295 := by decide
  exact ⟨n, rfl, by simpa [Lit.wf, e1, e2] using w⟩
theorem has_bool {x : RV} (h : Has .bool [x]) : ∃ b, x = .lit (.bool b) := by
  simp only [Has] at h
  obtain ⟨b, e⟩ := h
  cases e
  exact ⟨b, rfl⟩
theorem has_Sint {x : RV} (h : Has (.sl (.int .i64)) [x]) : ∃ l, SlI l x ∧ l.length < 2 ^ 63 := by
  obtain ⟨v, l, e, s, hl⟩ := has_ints h
  cases e
  exact ⟨l, s, hl⟩
theorem parts_u8 : ∀ (n : Nat) (xs : List RV), Parts (Has (.int .u8)) n xs → ∃ l : List Int, xs = ints .u8 l ∧ l.length = n ∧ ∀ x ∈ l, 0 ≤ x ∧ x ≤ 255
  | 0, xs, h => ⟨[], by simp only [Parts] at h; rw [h]; rfl, rfl, by simp⟩
  | n + 1, xs, h => by
    obtain ⟨a, b, rfl, ⟨x, rfl, w⟩, h2⟩ := h
    obtain ⟨l, rfl, e, hl⟩ := parts_u8 n b h2
    have e1 : IntKind.min .u8 = 0 := by decide
    have e2 : IntKind.max .u8 = 255 := by decide
    refine ⟨x :: l, rfl, by simp [e], fun y hy => ?_⟩
    rcases List.mem_cons.1 hy with rfl | hy
    · simpa [Lit.wf, e1, e2] using w
    · exact hl y hy
theorem has_Su8 {x : RV} (h : Has (.sl (.int .u8)) [x]) : ∃ l, (Sl (ints .u8 l) l.length x ∧ ∀ y ∈ l, 0 ≤ y ∧ y ≤ 255) ∧ l.length < 2 ^ 63 := by
  unfold Has at h
  rcases h with e | ⟨cs, len, e, hm, h⟩
  · cases e
    exact ⟨[], ⟨Sl.nil, by simp⟩, by simp⟩
  · cases e
    obtain ⟨l, rfl, rfl, hl⟩ := parts_u8 _ _ h
    exact ⟨l, ⟨Sl.mk _ _ _, hl⟩, by have := maxLt; omega⟩
end Go.AM.T
/- What the functions compute (own work). -/
namespace Go.AM.T
open Go Go.AM
attribute [local simp] so_mov so_pick so_alloc so_box so_build so_slit so_load so_store so_nilc so_bin so_beq so_eqs so_eqn so_eqnl so_not so_conv so_s2b so_mkfn so_slcA so_padd so_fld so_idxA so_idxV so_idxT so_look so_mupd so_mkmap so_mksl so_ext so_app so_lenT so_lenM so_min so_max so_cpy so_clr so_mkif so_tass so_lenS so_idxS so_slc
attribute [local simp] dn_skip dn_label dn_ret dn_exit dn_scope dn_keep dn_reg dn_draw0 noSlots denE denEI stepE  sd_mov sd_pick sd_build sd_load sd_store sd_nilc sd_bin sd_beq sd_eqs sd_eqn sd_eqnl sd_not sd_conv sd_s2b sd_mkfn sd_slc sd_slcA sd_padd sd_fld sd_idxS sd_idxA sd_idxV sd_idxT sd_look sd_mupd sd_ext sd_app sd_lenS sd_lenT sd_lenM sd_min sd_max sd_mkif sd_tass sd_call sd_slit dn_seq dn_cond dn_block dn_loop kn_call denIs denI denOp wants ev eget putD binL enumFrom AV.bool? AV.int? ekeep evs evp runV fin runDefs resAll resOf tupOf unit AV.cells okV ok1 Value.oneCell' fill setN rcells rs_nil rs_cons load_own load_cons mkAgg_rs storeN jmpOut
attribute [local simp] dvL dv1t dvAt mkAgg2 dv0 dv1 dv2 dv3 dv4 dv5 dv6 dv7 dv8 dv9 dv10 dvA dvN dvAll C_fz fzr
/-- The same division, but that its members may have fewer votes. -/
structure SubD (e d : Div) : Prop where
  n : e.n = d.n
  pairs : e.pairs = d.pairs
  proxies : e.proxies = d.proxies
  rule : e.rule = d.rule
  need : e.need = d.need
  quorum : e.quorum = d.quorum
  tie : e.tie = d.tie
  may : ∀ x v, v ∈ may e x → v ∈ may d x
section
variable {e d : Div}
theorem SubD.nums (h : SubD e d) (t : List Int) : numsL e t = numsL d t := by
  have h1 : memStep e t = memStep d t := by funext n i; unfold memStep; rw [h.pairs]
  have h2 : proxStep e t = proxStep d t := by funext n x; unfold proxStep; rw [h.pairs]
  unfold numsL numsM
  rw [h1, h2, h.proxies, h.n]
theorem SubD.outcome (h : SubD e d) (n : Int × Int) : outcomeI e n = outcomeI d n := by
  unfold outcomeI carriedB
  rw [h.quorum, h.rule, h.need, h.tie]
theorem SubD.rt (h : SubD e d) : ∀ (r : Nat) (b u : List Int), u ∈ rtF e r b → u ∈ rtF d r b
  | 0, b, u, hu => hu
  | r + 1, b, u, hu => by
    unfold rtF at hu ⊢
    obtain ⟨v, hv, hu⟩ := List.mem_flatMap.1 hu
    exact List.mem_flatMap.2 ⟨v, h.may _ _ hv, h.rt r _ u hu⟩
theorem SubD.rtOf (h : SubD e d) {u : List Int} (hu : u ∈ rtOf e) : u ∈ T.rtOf d := by
  unfold T.rtOf at hu ⊢
  rw [h.n] at hu
  exact h.rt _ _ _ hu
theorem SubD.len (h : SubD e d) (x : Int) : (T.may e x).length ≤ (T.may d x).length := by
  rw [← may_filter e, ← may_filter d, ← List.countP_eq_length_filter, ← List.countP_eq_length_filter]
  refine List.countP_mono_left fun v _ hv => ?_
  have := h.may x v (by simpa using hv)
  simpa using this
theorem SubD.doubts (h : SubD e d) : (doubtsL e).length ≤ (doubtsL d).length := by
  unfold doubtsL
  rw [List.length_map, List.length_map, ← List.countP_eq_length_filter, ← List.countP_eq_length_filter, h.n]
  refine List.countP_mono_left fun i _ hi => ?_
  have := h.len i
  simp at hi ⊢
  omega
theorem SubD.open_ (h : SubD e d) (ho : openI d = 0) (hr : rightB e = true) : openI e = if (clashB e).isSome then 9 else 0 := by
  have hd := (openI0 ho).2.2
  have := h.doubts
  unfold openI faultI
  rw [if_pos hr]
  by_cases hs : (clashB e).isSome = true
  · rw [if_pos hs, if_neg (by decide)]
  · rw [if_neg hs, if_pos rfl, if_neg (by omega)]
theorem SubD.al (h : SubD e d) (hn : d.n ≤ 40) {o : Int} (ho : o ∈ alS e) : o ∈ alS d := by
  unfold alS at ho ⊢
  rw [List.mem_filter] at ho ⊢
  refine ⟨ho.1, ?_⟩
  have h2 := ho.2
  rw [alL_rt (by rw [h.n]; exact hn), List.any_eq_true] at h2
  obtain ⟨u, hu, hx⟩ := h2
  rw [alL_rt hn, List.any_eq_true]
  exact ⟨u, h.rtOf hu, by rw [← h.nums, ← h.outcome]; exact hx⟩
/-- The bounds are bounds, and some number is at them. -/
theorem lw_le : ∀ (l : List (Int × Int)) (s : (Int × Int) × (Int × Int)),
    ((l.foldl lwStep s).1.1 ≤ s.1.1 ∧ s.1.2 ≤ (l.foldl lwStep s).1.2 ∧ (l.foldl lwStep s).2.1 ≤ s.2.1 ∧ s.2.2 ≤ (l.foldl lwStep s).2.2) ∧
    ∀ n ∈ l, (l.foldl lwStep s).1.1 ≤ n.1 ∧ n.1 ≤ (l.foldl lwStep s).1.2 ∧ (l.foldl lwStep s).2.1 ≤ n.2 ∧ n.2 ≤ (l.foldl lwStep s).2.2
  | [], s => by simp
  | n :: l, s => by
    have ih := lw_le l (lwStep s n)
    have h1 : (lwStep s n).1.1 ≤ s.1.1 ∧ s.1.2 ≤ (lwStep s n).1.2 ∧ (lwStep s n).2.1 ≤ s.2.1 ∧ s.2.2 ≤ (lwStep s n).2.2 ∧ (lwStep s n).1.1 ≤ n.1 ∧ n.1 ≤ (lwStep s n).1.2 ∧ (lwStep s n).2.1 ≤ n.2 ∧ n.2 ≤ (lwStep s n).2.2 := by
      unfold lwStep mn mx
      refine ⟨?_, ?_, ?_, ?_, ?_, ?_, ?_, ?_⟩ <;> simp only <;> split <;> omega
    rw [List.foldl_cons]
    refine ⟨by omega, fun x hx => ?_⟩
    rcases List.mem_cons.1 hx with rfl | hx
    · omega
    · exact ih.2 x hx
theorem lw_at : ∀ (l : List (Int × Int)) (s : (Int × Int) × (Int × Int)),
    ((l.foldl lwStep s).1.1 = s.1.1 ∨ ∃ n ∈ l, (l.foldl lwStep s).1.1 = n.1) ∧ ((l.foldl lwStep s).1.2 = s.1.2 ∨ ∃ n ∈ l, (l.foldl lwStep s).1.2 = n.1) ∧
    ((l.foldl lwStep s).2.1 = s.2.1 ∨ ∃ n ∈ l, (l.foldl lwStep s).2.1 = n.2) ∧ ((l.foldl lwStep s).2.2 = s.2.2 ∨ ∃ n ∈ l, (l.foldl lwStep s).2.2 = n.2)
  | [], s => by simp
  | n :: l, s => by
    have ih := lw_at l (lwStep s n)
    rw [List.foldl_cons]
    have h1 : ((lwStep s n).1.1 = s.1.1 ∨ (lwStep s n).1.1 = n.1) ∧ ((lwStep s n).1.2 = s.1.2 ∨ (lwStep s n).1.2 = n.1) ∧ ((lwStep s n).2.1 = s.2.1 ∨ (lwStep s n).2.1 = n.2) ∧ ((lwStep s n).2.2 = s.2.2 ∨ (lwStep s n).2.2 = n.2) := by
      unfold lwStep mn mx
      refine ⟨?_, ?_, ?_, ?_⟩ <;> simp only <;> split <;> simp
    obtain ⟨i1, i2, i3, i4⟩ := ih
    obtain ⟨j1, j2, j3, j4⟩ := h1
    refine ⟨?_, ?_, ?_, ?_⟩
    · rcases i1 with i | ⟨x, hx, i⟩
      · rcases j1 with j | j
        · exact .inl (i.trans j)
        · exact .inr ⟨n, by simp, i.trans j⟩
      · exact .inr ⟨x, by simp [hx], i⟩
    · rcases i2 with i | ⟨x, hx, i⟩
      · rcases j2 with j | j
        · exact .inl (i.trans j)
        · exact .inr ⟨n, by simp, i.trans j⟩
      · exact .inr ⟨x, by simp [hx], i⟩
    · rcases i3 with i | ⟨x, hx, i⟩
      · rcases j3 with j | j
        · exact .inl (i.trans j)
        · exact .inr ⟨n, by simp, i.trans j⟩
      · exact .inr ⟨x, by simp [hx], i⟩
    · rcases i4 with i | ⟨x, hx, i⟩
      · rcases j4 with j | j
        · exact .inl (i.trans j)
        · exact .inr ⟨n, by simp, i.trans j⟩
      · exact .inr ⟨x, by simp [hx], i⟩
/-- All numbers are in the bounds. -/
theorem bn_in (ho : openI d = 0) {u : List Int} (hu : u ∈ T.rtOf d) : (bnL d).a.1 ≤ (numsL d u).1 ∧ (numsL d u).1 ≤ (bnL d).a.2 ∧ (bnL d).b.1 ≤ (numsL d u).2 ∧ (numsL d u).2 ≤ (bnL d).b.2 := by
  obtain ⟨h1, h2⟩ := bnL_lw ho
  rw [h1, h2]
  have hm : numsL d u ∈ (T.rtOf d).map (numsL d) := List.mem_map_of_mem hu
  cases hl : (T.rtOf d).map (numsL d) with
  | nil => rw [hl] at hm; cases hm
  | cons n l =>
    rw [hl] at hm
    have := lw_le l (lw0 n)
    unfold lwL
    rcases List.mem_cons.1 hm with h | h
    · rw [h]; simp only [lw0] at this ⊢; omega
    · exact this.2 _ h
theorem bn_at (ho : openI d = 0) : (∃ u ∈ T.rtOf d, (bnL d).a.1 = (numsL d u).1) ∧ (∃ u ∈ T.rtOf d, (bnL d).a.2 = (numsL d u).1) ∧ (∃ u ∈ T.rtOf d, (bnL d).b.1 = (numsL d u).2) ∧ (∃ u ∈ T.rtOf d, (bnL d).b.2 = (numsL d u).2) := by
  obtain ⟨h1, h2⟩ := bnL_lw ho
  have hne := rtOf_ne ho
  rw [h1, h2]
  cases hr : T.rtOf d with
  | nil => exact absurd hr hne
  | cons u us =>
    rw [List.map_cons]
    unfold lwL
    obtain ⟨i1, i2, i3, i4⟩ := lw_at (us.map (numsL d)) (lw0 (numsL d u))
    refine ⟨?_, ?_, ?_, ?_⟩
    · rcases i1 with i | ⟨x, hx, i⟩
      · exact ⟨u, by simp, i⟩
      · obtain ⟨w, hw, rfl⟩ := List.mem_map.1 hx
        exact ⟨w, by simp [hw], i⟩
    · rcases i2 with i | ⟨x, hx, i⟩
      · exact ⟨u, by simp, i⟩
      · obtain ⟨w, hw, rfl⟩ := List.mem_map.1 hx
        exact ⟨w, by simp [hw], i⟩
    · rcases i3 with i | ⟨x, hx, i⟩
      · exact ⟨u, by simp, i⟩
      · obtain ⟨w, hw, rfl⟩ := List.mem_map.1 hx
        exact ⟨w, by simp [hw], i⟩
    · rcases i4 with i | ⟨x, hx, i⟩
      · exact ⟨u, by simp, i⟩
      · obtain ⟨w, hw, rfl⟩ := List.mem_map.1 hx
        exact ⟨w, by simp [hw], i⟩
theorem SubD.bn (h : SubD e d) (ho : openI d = 0) (ho' : openI e = 0) : (bnL d).a.1 ≤ (bnL e).a.1 ∧ (bnL e).a.2 ≤ (bnL d).a.2 ∧ (bnL d).b.1 ≤ (bnL e).b.1 ∧ (bnL e).b.2 ≤ (bnL d).b.2 := by
  obtain ⟨⟨u1, m1, e1⟩, ⟨u2, m2, e2⟩, ⟨u3, m3, e3⟩, ⟨u4, m4, e4⟩⟩ := bn_at ho'
  rw [e1, e2, e3, e4, h.nums, h.nums, h.nums, h.nums]
  have b1 := bn_in ho (h.rtOf m1)
  have b2 := bn_in ho (h.rtOf m2)
  have b3 := bn_in ho (h.rtOf m3)
  have b4 := bn_in ho (h.rtOf m4)
  omega
end
end Go.AM.T
/- What the functions compute (own work). -/
namespace Go.AM.T
open Go Go.AM
attribute [local simp] so_mov so_pick so_alloc so_box so_build so_slit so_load so_store so_nilc so_bin so_beq so_eqs so_eqn so_eqnl so_not so_conv so_s2b so_mkfn so_slcA so_padd so_fld so_idxA so_idxV so_idxT so_look so_mupd so_mkmap so_mksl so_ext so_app so_lenT so_lenM so_min so_max so_cpy so_clr so_mkif so_tass so_lenS so_idxS so_slc
attribute [local simp] dn_skip dn_label dn_ret dn_exit dn_scope dn_keep dn_reg dn_draw0 noSlots denE denEI stepE  sd_mov sd_pick sd_build sd_load sd_store sd_nilc sd_bin sd_beq sd_eqs sd_eqn sd_eqnl sd_not sd_conv sd_s2b sd_mkfn sd_slc sd_slcA sd_padd sd_fld sd_idxS sd_idxA sd_idxV sd_idxT sd_look sd_mupd sd_ext sd_app sd_lenS sd_lenT sd_lenM sd_min sd_max sd_mkif sd_tass sd_call sd_slit dn_seq dn_cond dn_block dn_loop kn_call denIs denI denOp wants ev eget putD binL enumFrom AV.bool? AV.int? ekeep evs evp runV fin runDefs resAll resOf tupOf unit AV.cells okV ok1 Value.oneCell' fill setN rcells rs_nil rs_cons load_own load_cons mkAgg_rs storeN jmpOut
attribute [local simp] dvL dv1t dvAt mkAgg2 dv0 dv1 dv2 dv3 dv4 dv5 dv6 dv7 dv8 dv9 dv10 dvA dvN dvAll C_fz fzr

theorem IF_u8_spec {lv F : AV} {n : Nat} {m : Mem} {e : Nat → AV} {p : Nat → Bool} (hn : n < 2 ^ 63) (hE : Els lv n 1 1 false m.h e) (hp : ∀ i, i < n → CallR C F [e i] { h := m.h } (.ret (bo (p i)) { h := m.h })) :
    CallR C (fnv fn_slices_IndexFunc_Suint8_uint8) [lv, F] m (.ret (i64 (idxOf n p)) m) := by
  have key := Loop.run (C := C) (c := l_slices_IndexFunc_Suint8_uint8_0) (live := [0, 1, 7, 8]) (fun k s => ∃ i : Nat, i + k = n ∧ At1 [0, 1, 7, 8] [(0, lv), (1, F), (7, i64 n), (8, i64 i)] { h := m.h } s ∧ ∀ j, j < i → p j = false)
    (fun o s => s.m = { h := m.h } ∧ s.defs = [] ∧ ((o = .ret ∧ ∃ i : Nat, eget s.env 4 = i64 i ∧ (List.range n).find? p = some i) ∨ (o = .exit 0 ∧ (List.range n).find? p = none))) (by
    rintro k s ⟨i, hik, ⟨he, hm, hd, hr⟩, hx⟩
    rw [he]
    cases k with
    | zero =>
      have e1 : ((i : Int) < (n : Int)) = False := eq_false (by omega)
      exact ⟨.exit 0, _, .of fun K => by simp [l_slices_IndexFunc_Suint8_uint8_0, e1]; rfl, .inr ⟨by simp, by simp [hm], by simp [hd], .inr ⟨rfl, find_none_of fun j hj => hx j (by omega)⟩⟩⟩
    | succ k =>
      have e1 : ((i : Int) < (n : Int)) = True := eq_true (by omega)
      have w1 : IntKind.wrap .i64 ((i : Int) + 1) = i + 1 := by rw [w64] <;> omega
      obtain ⟨a, ha, hl⟩ := hE.el i (by omega)
      have hl := hl []
      obtain ⟨c1, k1⟩ := hp i (by omega)
      cases hq : p i with
      | true =>
        rw [hq] at k1
        exact ⟨.ret, _, .ofN ⟨c1, fun q hq => by simp [l_slices_IndexFunc_Suint8_uint8_0, e1, ha, hm, hl, k1 q hq]; rfl⟩, .inr ⟨by simp, by simp, by simp [hd], .inl ⟨rfl, i, by simp, find_some_of (by omega) hx hq⟩⟩⟩
      | false =>
        rw [hq] at k1
        refine ⟨.norm, _, .ofN ⟨c1, fun q hq => by simp [l_slices_IndexFunc_Suint8_uint8_0, e1, ha, hm, hl, k1 q hq, w1]; rfl⟩, .inl ⟨rfl, k, by omega, i + 1, by omega, ⟨by simp, by simp, by simp [hd], by simp [hr]⟩, fun j hj => ?_⟩⟩
        by_cases e : j = i
        · subst e; exact hq
        · exact hx j (by omega))
  obtain ⟨o, s, h1, h2, h3, h4, h5⟩ := key n { env := [(0, lv), (1, F), (7, i64 n), (8, i64 0)], m := { h := m.h } } ⟨0, by simp, ⟨by simp, rfl, rfl, rfl⟩, by simp⟩
  obtain ⟨c0, h1⟩ := h1.get
  unfold idxOf
  rcases h5 with ⟨rfl, i, h5, h6⟩ | ⟨rfl, h6⟩ <;> rw [h6]
  · exact CallR.eval0 rfl rfl prog_slices_IndexFunc_Suint8_uint8 rfl ⟨c0, fun k hk => by simp [a_slices_IndexFunc_Suint8_uint8, hE.len, h1 k hk, h4, h5, h3]⟩
  · exact CallR.eval0 rfl rfl prog_slices_IndexFunc_Suint8_uint8 rfl ⟨c0, fun k hk => by simp [a_slices_IndexFunc_Suint8_uint8, hE.len, h1 k hk, h4, h3]⟩

theorem CF_u8_spec {lv F : AV} {n : Nat} {m : Mem} {e : Nat → AV} {p : Nat → Bool} (hn : n < 2 ^ 63) (hE : Els lv n 1 1 false m.h e) (hp : ∀ i, i < n → CallR C F [e i] { h := m.h } (.ret (bo (p i)) { h := m.h })) :
    CallR C (fnv fn_slices_ContainsFunc_Suint8_uint8) [lv, F] m (.ret (bo ((List.range n).any p)) m) := by
  obtain ⟨c1, k1⟩ := IF_u8_spec (m := { h := m.h }) hn hE hp
  rcases idxOf_any n p with ⟨h1, h2⟩ | ⟨h1, h2⟩
  · rw [h2]
    have e1 : (0 ≤ idxOf n p) = True := eq_true h1
    exact CallR.eval0 rfl rfl prog_slices_ContainsFunc_Suint8_uint8 rfl ⟨c1, fun k hk => by simp [a_slices_ContainsFunc_Suint8_uint8, k1 k hk, e1]⟩
  · rw [h2]
    have e1 : (0 ≤ idxOf n p) = False := eq_false (by omega)
    exact CallR.eval0 rfl rfl prog_slices_ContainsFunc_Suint8_uint8 rfl ⟨c1, fun k hk => by simp [a_slices_ContainsFunc_Suint8_uint8, k1 k hk, e1]⟩

theorem all_u8_1_spec {H : List Blk} {W : List Nat} {b : Nat} {R x : AV} {v : Bool} (hR : okV R = true) (hc : R.cells = [R]) (hb : H[b]? = some (.cells [R] ty_func_uint8_bool 0)) (hr : ∀ X, CallR C R [x] { h := H ++ X } (.ret (bo v) { h := H ++ X })) :
    CallR C (.fn fn_tally_all_uint8_1 [] [.own b 0 0]) [x] { h := H, wr := W } (.ret (bo (!v)) { h := H, wr := W }) := by
  have hbl : b < H.length := getElem?_lt hb
  obtain ⟨c1, k1⟩ := hr []
  exact CallR.evalA (m1 := { h := H ++ [] }) rfl rfl prog_tally_all_uint8_1 rfl ⟨c1, fun k hk => by
    have := k1 k hk
    try simp at this
    simp [a_tally_all_uint8_1, hb, this]⟩ (by simp) (by simp)

theorem all_u8_spec {lv R : AV} {n : Nat} {m : Mem} {e : Nat → AV} {p : Nat → Bool} (hn : n < 2 ^ 63) (hR : okV R = true) (hc : R.cells = [R]) (hE : ∀ X, Els lv n 1 1 false (m.h ++ X) e) (hr : ∀ i, i < n → ∀ X, CallR C R [e i] { h := m.h ++ X } (.ret (bo (p i)) { h := m.h ++ X })) :
    CallR C (fnv fn_tally_all_uint8) [lv, R] m (.ret (bo ((List.range n).all p)) m) := by
  obtain ⟨H, hH⟩ : ∃ H, H = m.h ++ [.cells [R] ty_func_uint8_bool 0] := ⟨_, rfl⟩
  have hb : H[m.h.length]? = some (.cells [R] ty_func_uint8_bool 0) := by simp [hH]
  have ht : H.take m.h.length = m.h := by simp [hH]
  have h1 : ∀ i, i < n → CallR C (.fn fn_tally_all_uint8_1 [] [.own m.h.length 0 0]) [e i] { h := H } (.ret (bo (!p i)) { h := H }) := fun i hi =>
    all_u8_1_spec hR hc hb (fun X => by have := hr i hi ([.cells [R] ty_func_uint8_bool 0] ++ X); simpa [hH] using this)
  obtain ⟨c1, k1⟩ := CF_u8_spec (m := { h := H }) hn (by have := hE [.cells [R] ty_func_uint8_bool 0]; rwa [← hH] at this) h1
  have he : (List.range n).any (fun i => !p i) = !(List.range n).all p := by simp [List.not_all_eq_any_not]
  rw [he] at k1
  exact CallR.eval (m1 := { h := H }) rfl rfl prog_tally_all_uint8 rfl ⟨c1, fun k hk => by simp [-okV, -AV.cells, a_tally_all_uint8, hR, hc, allR, AV.toR, ← hH, k1 k hk]⟩ ht (by simp)

theorem all_range {α : Type} (l : List α) (x0 : α) (p : α → Bool) : ((List.range l.length).all fun j => p (l.getD j x0)) = l.all p := by
  have h := any_range l x0 fun x => !p x
  rw [List.all_eq_not_any_not, List.all_eq_not_any_not, h]
theorem Count1_spec (x : Int) (m : Mem) : CallR C (fnv fn_tally_Count_1) [u8 x] m (.ret (bo (decide (x ≤ 2))) m) :=
  CallR.eval0 rfl rfl prog_tally_Count_1 rfl ⟨0, fun k _ => by simp [a_tally_Count_1]⟩
end Go.AM.T
/- What the functions compute (own work). -/
namespace Go.AM.T
open Go Go.AM
attribute [local simp] so_mov so_pick so_alloc so_box so_build so_slit so_load so_store so_nilc so_bin so_beq so_eqs so_eqn so_eqnl so_not so_conv so_s2b so_mkfn so_slcA so_padd so_fld so_idxA so_idxV so_idxT so_look so_mupd so_mkmap so_mksl so_ext so_app so_lenT so_lenM so_min so_max so_cpy so_clr so_mkif so_tass so_lenS so_idxS so_slc
attribute [local simp] dn_skip dn_label dn_ret dn_exit dn_scope dn_keep dn_reg dn_draw0 noSlots denE denEI stepE  sd_mov sd_pick sd_build sd_load sd_store sd_nilc sd_bin sd_beq sd_eqs sd_eqn sd_eqnl sd_not sd_conv sd_s2b sd_mkfn sd_slc sd_slcA sd_padd sd_fld sd_idxS sd_idxA sd_idxV sd_idxT sd_look sd_mupd sd_ext sd_app sd_lenS sd_lenT sd_lenM sd_min sd_max sd_mkif sd_tass sd_call sd_slit dn_seq dn_cond dn_block dn_loop kn_call denIs denI denOp wants ev eget putD binL enumFrom AV.bool? AV.int? ekeep evs evp runV fin runDefs resAll resOf tupOf unit AV.cells okV ok1 Value.oneCell' fill setN rcells rs_nil rs_cons load_own load_cons mkAgg_rs storeN jmpOut
attribute [local simp] dvL dv1t dvAt mkAgg2 dv0 dv1 dv2 dv3 dv4 dv5 dv6 dv7 dv8 dv9 dv10 dvA dvN dvAll C_fz fzr
def truthB' (d : Div) (u : List Int) : Bool := u.all (fun v => decide (v ≤ 2)) && decide ((u.length : Int) = d.n)
def fitsB' (d : Div) (u : List Int) : Bool := (List.range d.n.toNat).all fun i => decide (u.getD i 0 ∈ may d i)
/-- The error of a count. -/
def cntE (d : Div) (u : List Int) : Int := if rightB d = true then (if truthB' d u = true then (if faultI d = 0 then (if fitsB' d u = true then 0 else 7) else faultI d) else 2) else 1
theorem pad_take {u : List Int} (i : Nat) (hi : i < u.length) (h40 : u.length ≤ 40) : (pad (u.take i)).set i u[i] = pad (u.take (i + 1)) := by
  have h1 : (u.take i).length = i := by rw [List.length_take]; omega
  have := pad_set (b := u.take i) u[i] (by omega)
  rw [h1] at this
  rw [this, List.take_succ_eq_append_getElem hi]
theorem pad_len {u : List Int} (h : u.length ≤ 40) : (pad u).length = 40 := by unfold pad; simp; omega
section
variable {d : Div} {a0 a1 n0 n1 p q : RV}
theorem count_loop (hn : 1 ≤ d.n ∧ d.n ≤ 40) {R : List RV} (lR : R.length = 91) (hRm : ∀ i : Nat, i < 40 → (i : Int) < d.n → List.take 1 (List.drop (51 + i) (rs R)) = [.r (slU (may d i))])
    {u : List Int} {v : AV} (hu : (u.length : Int) = d.n) {M0 H : List Blk} (hA : ∀ H' : List Blk, H'.take M0.length = M0 → Arr .u8 H' v u) {cN cR cT : Nat} (hM : H.take M0.length = M0) (hN : H[cN]? = some (.cells [i64 0, i64 0] ty_tally_Numbers 0)) (hR : H[cR]? = some (.cells (rs R) ty_tally_looked 0)) (hT : cT < H.length) (hNT : cN ≠ cT) (hRT : cR ≠ cT) (hMT : M0.length ≤ cT) (hMN : M0.length ≤ cN) :
    ∀ (k i : Nat) (s : St), i + k = u.length → ekeep [4, 7, 8, 35, 36, 37] s.env = [(4, .own cN 0 0), (7, .own cR 0 0), (8, .own cT 0 0), (35, v), (36, i64 u.length), (37, i64 i)] → s.m.h = H.set cT (.cells (rs (ints .u8 (pad (u.take i)))) ty_tally_truth 0) → (∀ x ∈ s.m.wr, M0.length ≤ x) → s.defs = [] → (∀ j, j < i → decide (u.getD j 0 ∈ may d j) = true) →
      ∃ s' o, Loop C [4, 7, 8, 35, 36, 37] l_tally_Count_0 s o s' ∧ (∀ x ∈ s'.m.wr, M0.length ≤ x) ∧ s'.defs = [] ∧ eget s'.env 4 = .own cN 0 0 ∧
        ((o = .ret ∧ eget s'.env 5 = u8 0 ∧ eget s'.env 6 = i64 7 ∧ s'.m.h.take M0.length = M0 ∧ s'.m.h[cN]? = some (.cells [i64 0, i64 0] ty_tally_Numbers 0) ∧ fitsB' d u = false) ∨
          (o = .exit 0 ∧ eget s'.env 7 = .own cR 0 0 ∧ eget s'.env 8 = .own cT 0 0 ∧ s'.m.h = H.set cT (.cells (rs (ints .u8 (pad u))) ty_tally_truth 0) ∧ fitsB' d u = true)) := by
  intro k
  induction k with
  | zero =>
    intro i s hi he hm hw hd hx
    have e0 : ((i : Int) < (u.length : Int)) = False := eq_false (by omega)
    rw [List.take_of_length_le (by omega)] at hm
    refine ⟨_, .exit 0, .stop (.of fun K => by rw [he]; simp [l_tally_Count_0, e0]; rfl) (by simp), by simpa using hw, by simp [hd], by simp, .inr ⟨rfl, by simp, by simp, by simp [hm], ?_⟩⟩
    unfold fitsB'
    rw [List.all_eq_true]
    intro j hj
    exact hx j (by simp at hj; omega)
  | succ k ih =>
    intro i s hi he hm hw hd hx
    obtain ⟨M, hMM⟩ : ∃ M, M = s.m := ⟨_, rfl⟩
    obtain ⟨h, w⟩ := M
    rw [← hMM] at hm hw
    simp only at hm hw
    have hil : i < u.length := by omega
    have hi40 : i < 40 := by omega
    have e0 : ((i : Int) < (u.length : Int)) = True := eq_true (by omega)
    have e40 : ((i : Int) < 40) = True := eq_true (by omega)
    have w1 : IntKind.wrap .i64 ((i : Int) + 1) = i + 1 := by rw [w64] <;> omega
    have hMh : h.take M0.length = M0 := by rw [hm, List.take_set_of_le hMT]; exact hM
    obtain ⟨a, ha, hld⟩ := (hA h hMh).el i hil
    have hld := hld w
    rw [getD_get hil] at hld
    have gN : h[cN]? = some (.cells [i64 0, i64 0] ty_tally_Numbers 0) := by rw [hm, List.getElem?_set_ne (Ne.symm hNT)]; exact hN
    have gR : h[cR]? = some (.cells (rs R) ty_tally_looked 0) := by rw [hm, List.getElem?_set_ne (Ne.symm hRT)]; exact hR
    have hmay := hRm i hi40 (by omega)
    have oa : (51 + i + 1 ≤ 91) = True := eq_true (by omega)
    have hml := may_len3 d i
    obtain ⟨c1, k1⟩ := ContainsU_spec (m := { h := h, wr := w }) (l := may d i) (Arr.ofSl (Sl.slU (may d i))) (by omega) u[i]
    have hc : (may d i).contains u[i] = decide (u.getD i 0 ∈ may d i) := by rw [getD_get hil, Bool.eq_iff_iff]; simp
    rw [hc] at k1
    obtain ⟨x, hxx⟩ : ∃ x, x = u[i] := ⟨_, rfl⟩
    rw [← hxx] at k1 hld
    cases hp : decide (u.getD i 0 ∈ may d i) with
    | false =>
      rw [hp] at k1
      have hsame : h.set cN (.cells [i64 0, i64 0] ty_tally_Numbers 0) = h := set_same gN
      refine ⟨_, .ret, .stop (.ofN ⟨c1, fun n hn' => by
        rw [he]
        simp [l_tally_Count_0, ← hMM, e0, e40, ha, hld, gR, rs_len, lR, oa, hmay, k1 n hn', gN, mkAgg, allR, AV.toR, hsame]
        rfl⟩) (by simp), ?_, by simp [hd], by simp, .inl ⟨rfl, by simp, by simp, by simp [hMh], by simp [gN], ?_⟩⟩
      · intro y hy
        simp at hy
        rcases hy with rfl | hy
        · exact hMN
        · exact hw y hy
      · unfold fitsB'
        rw [List.all_eq_false]
        exact ⟨i, by simp; omega, by rw [hp]; simp⟩
    | true =>
      rw [hp] at k1
      have hpl : (u.take i).length ≤ 40 := by rw [List.length_take]; omega
      have gT : h[cT]? = some (.cells (rs (ints .u8 (pad (u.take i)))) ty_tally_truth 0) := by rw [hm, List.getElem?_set_self hT]
      have lT : (rs (ints .u8 (pad (u.take i)))).length = 40 := by rw [rs_len, ints_len, pad_len hpl]
      have pT := put_ints (k := .u8) (l := pad (u.take i)) (j := i) (by rw [pad_len hpl]; exact hi40) x
      rw [hxx, pad_take i hil (by omega), ← hxx] at pT
      have o40 : (i + 1 ≤ 40) = True := eq_true (by omega)
      have hset : h.set cT (.cells (rs (ints .u8 (pad (u.take (i + 1))))) ty_tally_truth 0) = H.set cT (.cells (rs (ints .u8 (pad (u.take (i + 1))))) ty_tally_truth 0) := by rw [hm, List.set_set]
      obtain ⟨I, hI⟩ : ∃ I, I = ints .u8 (pad (u.take i)) := ⟨_, rfl⟩
      obtain ⟨I2, hI2⟩ : ∃ I, I = ints .u8 (pad (u.take (i + 1))) := ⟨_, rfl⟩
      rw [← hI] at gT lT pT
      rw [← hI2] at pT hset
      have hrd : ∃ s1, Den C l_tally_Count_0 { s with env := ekeep [4, 7, 8, 35, 36, 37] s.env } .norm s1 ∧ ekeep [4, 7, 8, 35, 36, 37] s1.env = [(4, .own cN 0 0), (7, .own cR 0 0), (8, .own cT 0 0), (35, v), (36, i64 u.length), (37, i64 (i + 1 : Nat))] ∧ s1.m = { h := h.set cT (.cells (rs I2) ty_tally_truth 0), wr := cT :: w } ∧ s1.defs = [] :=
        ⟨_, .ofN ⟨c1, fun n hn' => by
          rw [he]
          simp [l_tally_Count_0, ← hMM, e0, e40, ha, hld, gR, rs_len, lR, oa, hmay, k1 n hn', gT, lT, o40, pT, w1]
          rfl⟩, by simp, by simp, by simp [hd]⟩
      obtain ⟨s1, r1, r2, r3, r4⟩ := hrd
      obtain ⟨s', o, g1, g2⟩ := ih (i + 1) s1 (by omega) r2 (by rw [r3, ← hI2]; exact hset) (by
        rw [r3]
        intro y hy
        rcases List.mem_cons.1 hy with rfl | hy
        · exact hMT
        · exact hw y hy) r4 (by
        intro j hj
        by_cases e : j = i
        · subst e; exact hp
        · exact hx j (by omega))
      exact ⟨s', o, .more r1 g1, g2⟩
end
end Go.AM.T
/- What the functions compute (own work). -/
namespace Go.AM.T
open Go Go.AM
attribute [local simp] so_mov so_pick so_alloc so_box so_build so_slit so_load so_store so_nilc so_bin so_beq so_eqs so_eqn so_eqnl so_not so_conv so_s2b so_mkfn so_slcA so_padd so_fld so_idxA so_idxV so_idxT so_look so_mupd so_mkmap so_mksl so_ext so_app so_lenT so_lenM so_min so_max so_cpy so_clr so_mkif so_tass so_lenS so_idxS so_slc
attribute [local simp] dn_skip dn_label dn_ret dn_exit dn_scope dn_keep dn_reg dn_draw0 noSlots denE denEI stepE  sd_mov sd_pick sd_build sd_load sd_store sd_nilc sd_bin sd_beq sd_eqs sd_eqn sd_eqnl sd_not sd_conv sd_s2b sd_mkfn sd_slc sd_slcA sd_padd sd_fld sd_idxS sd_idxA sd_idxV sd_idxT sd_look sd_mupd sd_ext sd_app sd_lenS sd_lenT sd_lenM sd_min sd_max sd_mkif sd_tass sd_call sd_slit dn_seq dn_cond dn_block dn_loop kn_call denIs denI denOp wants ev eget putD binL enumFrom AV.bool? AV.int? ekeep evs evp runV fin runDefs resAll resOf tupOf unit AV.cells okV ok1 Value.oneCell' fill setN rcells rs_nil rs_cons load_own load_cons mkAgg_rs storeN jmpOut
attribute [local simp] dvL dv1t dvAt mkAgg2 dv0 dv1 dv2 dv3 dv4 dv5 dv6 dv7 dv8 dv9 dv10 dvA dvN dvAll C_fz fzr
section
variable {d : Div} {a0 a1 n0 n1 p q : RV}
def cntN (d : Div) (u : List Int) : Int × Int := if cntE d u = 0 then numsL d u else (0, 0)
def cntO (d : Div) (u : List Int) : Int := if cntE d u = 0 then outcomeI d (numsL d u) else 0
theorem Count_spec (hs : DivS d a0 a1 n0 n1 p q) (hb : Small d) (hru : 0 ≤ d.rule ∧ d.rule ≤ 255) {u : List Int} {v : AV} (hul : u.length < 2 ^ 62) (m : Mem) (hA : ∀ H' : List Blk, H'.take m.h.length = m.h → Arr .u8 H' v u) :
    CallR C (fnv fn_tally_Count) [.r (.agg (divC d a0 a1 n0 n1 p q)), v] m (.ret (.tup [.r (nmR (cntN d u)), u8 (cntO d u), i64 (cntE d u)]) m) := by
  have hd11 : (divC d a0 a1 n0 n1 p q).length = 11 := rfl
  obtain ⟨D, hD⟩ : ∃ D, D = divC d a0 a1 n0 n1 p q := ⟨_, rfl⟩
  obtain ⟨H0, hH0⟩ : ∃ H0, H0 = m.h ++ [.cells (rs D) ty_tally_Division 0, .cells [i64 0, i64 0] ty_tally_Numbers 0] := ⟨_, rfl⟩
  obtain ⟨c1, k1⟩ := valid_spec hs hb hru { h := H0 }
  rw [valid_right] at k1
  have hl0 : H0.length = m.h.length + 2 := by simp [hH0]
  have ht0 : H0.take m.h.length = m.h := by simp [hH0]
  have b0 : H0[m.h.length]? = some (.cells (rs D) ty_tally_Division 0) := by simp [hH0]
  have b1 : H0[m.h.length + 1]? = some (.cells [i64 0, i64 0] ty_tally_Numbers 0) := by rw [hH0, get_midk]; rfl
  have hs0 : H0.set (m.h.length + 1) (.cells [i64 0, i64 0] ty_tally_Numbers 0) = H0 := set_same b1
  have hlen := (hA m.h (by simp)).len
  have hDn : List.take 1 (rs D) = [i64 d.n] := by rw [hD]; rfl
  have nm0 : nmR (0, 0) = .agg [.lit (.int .i64 0), .lit (.int .i64 0)] := rfl
  have fin0 : ∀ (e : Int) (c : Nat) (H : List Blk) (W : List Nat), cntE d u = e → e ≠ 0 → H.take m.h.length = m.h → (∀ x ∈ W, m.h.length ≤ x) → (∀ k, c ≤ k → runV (Kn C k) C.fz a_tally_Count [.r (.agg D), v] m.h = some (.tup [.r (.agg [.lit (.int .i64 0), .lit (.int .i64 0)]), u8 0, i64 e], { h := H, wr := W })) →
      CallR C (fnv fn_tally_Count) [.r (.agg D), v] m (.ret (.tup [.r (nmR (cntN d u)), u8 (cntO d u), i64 (cntE d u)]) m) := by
    intro e c H W he hne ht hw h
    have h1 : cntN d u = (0, 0) := by unfold cntN; rw [he, if_neg hne]
    have h2 : cntO d u = 0 := by unfold cntO; rw [he, if_neg hne]
    rw [h1, h2, he, nm0]
    exact CallR.eval (m1 := { h := H, wr := W }) rfl rfl prog_tally_Count rfl ⟨c, fun k hk => by simpa using h k hk⟩ ht hw
  rw [← hD] at k1 hd11 ⊢
  have hDt : List.take 11 (rs D) = rs D := List.take_of_length_le (by rw [rs_len]; omega)
  cases hr : rightB d with
  | false =>
    rw [hr] at k1
    refine fin0 1 c1 H0 [m.h.length + 1] (by simp [cntE, hr]) (by decide) ht0 (by simp) fun k hk => ?_
    simp [a_tally_Count, rs_len, hd11, hDt, ← hH0, b0, b1, gq b0, gq b1, k1 k hk, hs0, mkAgg, allR, AV.toR, allR_rs, fz, fzs]
  | true =>
  rw [hr] at k1
  have hn := right_n hr
  have hE : ∀ X, Els v u.length 1 1 false (H0 ++ X) (fun i => u8 (u.getD i 0)) := fun X => hA (H0 ++ X) (by rw [List.take_append_of_le_length (by omega)]; exact ht0)
  obtain ⟨c2, k2⟩ := all_u8_spec (m := { h := H0, wr := [] }) (lv := v) (R := .r (.fn fn_tally_Count_1 [] [])) (n := u.length) (e := fun i => u8 (u.getD i 0)) (p := fun i => decide (u.getD i 0 ≤ 2)) (by omega) rfl rfl hE (fun i hi X => Count1_spec _ _)
  rw [all_range u 0 fun x => decide (x ≤ 2)] at k2
  by_cases htr : truthB' d u = true
  case neg =>
    have hc2 : cntE d u = 2 := by unfold cntE; rw [if_pos hr, if_neg htr]
    refine fin0 2 (c1 + c2) H0 [m.h.length + 1] hc2 (by decide) ht0 (by simp) fun k hk => ?_
    by_cases hl : (u.length : Int) = d.n
    · have hl' : ((u.length : Int) != d.n) = false := by simp [hl]
      have hal : u.all (fun x => decide (x ≤ 2)) = false := by
        cases h : u.all (fun x => decide (x ≤ 2)) with
        | false => rfl
        | true => exact absurd (by unfold truthB'; rw [h]; simpa using hl) htr
      rw [hal] at k2
      simp [a_tally_Count, rs_len, hd11, hDt, ← hH0, b0, b1, gq b0, gq b1, k1 k (by omega), hlen, hDn, hl', hl, k2 k (by omega), hs0, mkAgg, allR, AV.toR, allR_rs, fz, fzs]
    · have hl' : ((u.length : Int) != d.n) = true := by simpa using hl
      simp [a_tally_Count, rs_len, hd11, hDt, ← hH0, b0, b1, gq b0, gq b1, k1 k (by omega), hlen, hDn, hl', hl, hs0, mkAgg, allR, AV.toR, allR_rs, fz, fzs]
  have htr2 : u.all (fun x => decide (x ≤ 2)) = true ∧ (u.length : Int) = d.n := by
    unfold truthB' at htr
    rw [Bool.and_eq_true, decide_eq_true_eq] at htr
    exact htr
  obtain ⟨hal, hl⟩ := htr2
  have hl' : ((u.length : Int) != d.n) = false := by simp [hl]
  rw [hal] at k2
  obtain ⟨c3, k3⟩ := begin_spec hs hb hru { h := H0, wr := [] }
  rw [← hD] at k3
  obtain ⟨R, hRR⟩ : ∃ R, R = (if faultI d = 0 then lookC d D else z_tally_looked) := ⟨_, rfl⟩
  rw [← hRR] at k3
  have lR : R.length = 91 := by rw [hRR, hD]; split <;> rfl
  have hRt : List.take 91 (rs R) = rs R := List.take_of_length_le (by rw [rs_len]; omega)
  obtain ⟨Z, hZ⟩ : ∃ Z, Z = z_tally_looked := ⟨_, rfl⟩
  have hZl : Z.length = 91 := by rw [hZ]; rfl
  have hZd : List.drop 91 (rs Z) = [] := List.drop_eq_nil_of_le (by rw [rs_len]; omega)
  have hget : ∀ b : Blk, (H0 ++ [b])[H0.length]? = some b := fun b => by simp
  have hset : ∀ b b' : Blk, (H0 ++ [b]).set H0.length b' = H0 ++ [b'] := fun b b' => by simp
  have hH0l : ∀ b : Blk, (H0 ++ [b])[m.h.length + 2]? = some b := fun b => by rw [← hl0]; simp
  have hset2 : ∀ b b' : Blk, (H0 ++ [b]).set (m.h.length + 2) b' = H0 ++ [b'] := fun b b' => by rw [← hl0]; simp
  have up : ∀ (X : List Blk) j, j < m.h.length + 2 → (H0 ++ X)[j]? = H0[j]? := fun X j hj => List.getElem?_append_left (by omega)
  by_cases hf : faultI d = 0
  case neg =>
    have hcf : cntE d u = faultI d := by unfold cntE; rw [if_pos hr, if_pos htr, if_neg hf]
    obtain ⟨H1, hH1⟩ : ∃ H1, H1 = H0 ++ [.cells (rs R) ty_tally_looked 0] := ⟨_, rfl⟩
    have d1 : H1[m.h.length + 1]? = some (.cells [i64 0, i64 0] ty_tally_Numbers 0) := by rw [hH1, up _ _ (by omega)]; exact b1
    have hs1 : H1.set (m.h.length + 1) (.cells [i64 0, i64 0] ty_tally_Numbers 0) = H1 := set_same d1
    have hf' : (faultI d != 0) = true := by simpa using hf
    obtain ⟨z, hz⟩ : ∃ z, z = faultI d := ⟨_, rfl⟩
    rw [← hz] at hcf hf hf' k3
    refine fin0 z (c1 + c2 + c3) H1 [m.h.length + 1, m.h.length + 2] hcf hf (by rw [hH1, List.take_append_of_le_length (by omega)]; exact ht0) (by simp) fun k hk => ?_
    simp [a_tally_Count, rs_len, hd11, hDt, ← hH0, b0, b1, gq b0, gq b1, k1 k (by omega), hlen, hDn, hl', hl, k2 k (by omega), k3 k (by omega), ← hZ, hZl, hZd, lR, hl0, hget, hset, hH0l, hset2, ← hH1, hf', d1, gq d1, hs1, mkAgg, allR, AV.toR, allR_rs, fz, fzs]
  rw [if_pos hf] at hRR
  rw [hf] at k3
  have hu40 : u.length ≤ 40 := by omega
  have hRm : ∀ i : Nat, i < 40 → (i : Int) < d.n → List.take 1 (List.drop (51 + i) (rs R)) = [.r (slU (may d i))] := fun i => by rw [hRR, hD]; exact lookC_may
  obtain ⟨H1, hH1⟩ : ∃ H1, H1 = H0 ++ [.cells (rs R) ty_tally_looked 0] := ⟨_, rfl⟩
  obtain ⟨H2, hH2⟩ : ∃ H2, H2 = H1 ++ [.cells (rs z_tally_truth) ty_tally_truth 0] := ⟨_, rfl⟩
  have hl1 : H1.length = m.h.length + 3 := by simp [hH1, hl0]
  have hl2 : H2.length = m.h.length + 4 := by simp [hH2, hl1]
  have ht1 : H1.take m.h.length = m.h := by rw [hH1, List.take_append_of_le_length (by omega)]; exact ht0
  have ht2 : H2.take m.h.length = m.h := by rw [hH2, List.take_append_of_le_length (by omega)]; exact ht1
  have e1 : H2[m.h.length + 1]? = some (.cells [i64 0, i64 0] ty_tally_Numbers 0) := by rw [hH2, List.getElem?_append_left (by omega), hH1, up _ _ (by omega)]; exact b1
  have e2 : H2[m.h.length + 2]? = some (.cells (rs R) ty_tally_looked 0) := by rw [hH2, List.getElem?_append_left (by omega), hH1, ← hl0]; simp
  have e3 : H2[m.h.length + 3]? = some (.cells (rs z_tally_truth) ty_tally_truth 0) := by rw [hH2, ← hl1]; simp
  have hz0 : z_tally_truth = ints .u8 (pad (u.take 0)) := by rw [truth_zero]; rfl
  obtain ⟨s', o, l1, hw', hd', f4, hor⟩ := count_loop (R := R) (u := u) (v := v) hn lR hRm hl hA (cN := m.h.length + 1) (cR := m.h.length + 2) (cT := m.h.length + 3) (H := H2) ht2 e1 e2 (by omega) (by omega) (by omega) (by omega) (by omega) u.length 0
    { env := [(37, i64 0), (36, i64 u.length), (35, v), (8, .own (m.h.length + 3) 0 0), (1, v), (4, .own (m.h.length + 1) 0 0), (6, i64 0), (7, .own (m.h.length + 2) 0 0), (32, bo false)], m := { h := H2, wr := [m.h.length + 2] } } (by omega) (by simp) (by rw [← hz0]; exact (set_same e3).symm) (by simp) rfl (by intro j hj; omega)
  obtain ⟨c4, k4⟩ := l1.get
  have hget1 : ∀ b : Blk, (H1 ++ [b])[H1.length]? = some b := fun b => by simp
  rcases hor with ⟨rfl, f5, f6, htk, hN', hfit⟩ | ⟨rfl, f7, f8, hh, hfit⟩
  · have hc7 : cntE d u = 7 := by unfold cntE; rw [if_pos hr, if_pos htr, if_pos hf, hfit]; rfl
    obtain ⟨M, hM⟩ : ∃ M, M = s'.m := ⟨_, rfl⟩
    rw [← hM] at htk hN' hw'
    refine fin0 7 (c1 + c2 + c3 + c4) M.h M.wr hc7 (by decide) htk hw' fun k hk => ?_
    have k4 := k4 k (by omega)
    rw [hl] at k4
    simp [a_tally_Count, rs_len, hd11, hDt, ← hH0, b0, b1, gq b0, gq b1, k1 k (by omega), hlen, hDn, hl', hl, k2 k (by omega), k3 k (by omega), ← hZ, hZl, hZd, lR, hl0, hget, hset, hH0l, hset2, ← hH1, hl1, ← hH2, k4, f4, f5, f6, hd', ← hM, hN', mkAgg, allR, AV.toR, allR_rs, fz, fzs]
  · have hc0 : cntE d u = 0 := by unfold cntE; rw [if_pos hr, if_pos htr, if_pos hf, hfit]; rfl
    have hN0 : cntN d u = numsL d u := by unfold cntN; rw [if_pos hc0]
    have hO0 : cntO d u = outcomeI d (numsL d u) := by unfold cntO; rw [if_pos hc0]
    rw [hN0, hO0, hc0]
    obtain ⟨W', hW'⟩ : ∃ W', W' = s'.m.wr := ⟨_, rfl⟩
    obtain ⟨H3, hH3⟩ : ∃ H3, H3 = H2.set (m.h.length + 3) (.cells (rs (ints .u8 (pad u))) ty_tally_truth 0) := ⟨_, rfl⟩
    have hsm : s'.m = { h := H3, wr := W' } := by rw [hH3, hW', ← hh]
    rw [← hW'] at hw'
    have i1 : H3[m.h.length + 1]? = some (.cells [i64 0, i64 0] ty_tally_Numbers 0) := by rw [hH3, List.getElem?_set_ne (by omega)]; exact e1
    have i2 : H3[m.h.length + 2]? = some (.cells (rs R) ty_tally_looked 0) := by rw [hH3, List.getElem?_set_ne (by omega)]; exact e2
    have i3 : H3[m.h.length + 3]? = some (.cells (rs (ints .u8 (pad u))) ty_tally_truth 0) := by rw [hH3, List.getElem?_set_self (by omega)]
    have hl3 : H3.length = m.h.length + 4 := by simp [hH3, hl2]
    obtain ⟨c5, k5⟩ := numbers_spec hs hr (t := pad u) (pad_len hu40) { h := H3, wr := W' }
    rw [nums_pad, ← hD, ← hRR] at k5
    obtain ⟨n, hnn⟩ : ∃ n, n = numsL d u := ⟨_, rfl⟩
    rw [← hnn] at k5 ⊢
    have hnl := nums_le hr u
    rw [← hnn] at hnl
    obtain ⟨H4, hH4⟩ : ∃ H4, H4 = H3.set (m.h.length + 1) (.cells [i64 n.1, i64 n.2] ty_tally_Numbers 0) := ⟨_, rfl⟩
    obtain ⟨c6, k6⟩ := outcome_spec (a0 := a0) (a1 := a1) (n0 := n0) (n1 := n1) (p := p) (q := q) hr hru.1 n hnl.1 hnl.2 { h := H4 }
    rw [← hD, ← hRR] at k6
    simp only [nmR] at k6 ⊢
    have j1 : H4[m.h.length + 1]? = some (.cells [i64 n.1, i64 n.2] ty_tally_Numbers 0) := by rw [hH4, List.getElem?_set_self (by omega)]
    have j2 : H4[m.h.length + 2]? = some (.cells (rs R) ty_tally_looked 0) := by rw [hH4, List.getElem?_set_ne (by omega)]; exact i2
    have hs4 : H4.set (m.h.length + 1) (.cells [i64 n.1, i64 n.2] ty_tally_Numbers 0) = H4 := set_same j1
    obtain ⟨o', ho'⟩ : ∃ o', o' = outcomeI d n := ⟨_, rfl⟩
    rw [← ho'] at k6 ⊢
    have lI : (ints .u8 (pad u)).length = 40 := by rw [ints_len, pad_len hu40]
    have tI : List.take 40 (rs (ints .u8 (pad u))) = rs (ints .u8 (pad u)) := List.take_of_length_le (by rw [rs_len]; omega)
    obtain ⟨I, hI⟩ : ∃ I, I = ints .u8 (pad u) := ⟨_, rfl⟩
    rw [← hI] at i3 k5 lI tI
    refine CallR.eval (m1 := { h := H4, wr := (m.h.length + 1) :: (m.h.length + 1) :: W' }) rfl rfl prog_tally_Count rfl ⟨c1 + c2 + c3 + c4 + c5 + c6, fun k hk => ?_⟩ (by rw [hH4, List.take_set_of_le (by omega), hH3, List.take_set_of_le (by omega)]; exact ht2) (by
      intro x hx
      simp only [List.mem_cons] at hx
      rcases hx with rfl | rfl | hx
      · omega
      · omega
      · exact hw' x hx)
    have k4 := k4 k (by omega)
    rw [hl] at k4
    simp [a_tally_Count, rs_len, hd11, hDt, ← hH0, b0, b1, gq b0, gq b1, k1 k (by omega), hlen, hDn, hl', hl, k2 k (by omega), k3 k (by omega), ← hZ, hZl, hZd, lR, hRt, hl0, hget, hset, hH0l, hset2, ← hH1, hl1, ← hH2, k4, f4, f7, f8, hd', hsm, i1, i2, i3, gq i1, gq i2, gq i3, lI, tI, k5 k (by omega), dn_drawF, denF, denFI, stepF, slotFree, slotOf, foot, avIdx, pairsOk, apartL_nil, wrAll_self, ← hH4, j1, j2, gq j1, gq j2, k6 k (by omega), hs4, mkAgg, allR, AV.toR, allR_rs, fz, fzs]
end
end Go.AM.T
/- What the functions compute (own work). -/
namespace Go.AM.T
open Go Go.AM
attribute [local simp] so_mov so_pick so_alloc so_box so_build so_slit so_load so_store so_nilc so_bin so_beq so_eqs so_eqn so_eqnl so_not so_conv so_s2b so_mkfn so_slcA so_padd so_fld so_idxA so_idxV so_idxT so_look so_mupd so_mkmap so_mksl so_ext so_app so_lenT so_lenM so_min so_max so_cpy so_clr so_mkif so_tass so_lenS so_idxS so_slc
attribute [local simp] dn_skip dn_label dn_ret dn_exit dn_scope dn_keep dn_reg dn_draw0 noSlots denE denEI stepE  sd_mov sd_pick sd_build sd_load sd_store sd_nilc sd_bin sd_beq sd_eqs sd_eqn sd_eqnl sd_not sd_conv sd_s2b sd_mkfn sd_slc sd_slcA sd_padd sd_fld sd_idxS sd_idxA sd_idxV sd_idxT sd_look sd_mupd sd_ext sd_app sd_lenS sd_lenT sd_lenM sd_min sd_max sd_mkif sd_tass sd_call sd_slit dn_seq dn_cond dn_block dn_loop kn_call denIs denI denOp wants ev eget putD binL enumFrom AV.bool? AV.int? ekeep evs evp runV fin runDefs resAll resOf tupOf unit AV.cells okV ok1 Value.oneCell' fill setN rcells rs_nil rs_cons load_own load_cons mkAgg_rs storeN jmpOut
attribute [local simp] dvL dv1t dvAt mkAgg2 dv0 dv1 dv2 dv3 dv4 dv5 dv6 dv7 dv8 dv9 dv10 dvA dvN dvAll C_fz fzr
/-- A truth that fits, by a word. -/
def choF (d : Div) : Nat → Nat → List Int → List Int
  | 0, _, b => b
  | r + 1, w, b => if 1 < (may d b.length).length then choF d r (w / 3) (b ++ [(may d b.length).getD (w % (may d b.length).length) 0]) else choF d r w (b ++ [(may d b.length).getD 0 0])
def choL (d : Div) (w : Int) : List Int := choF d d.n.toNat w.toNat []
theorem cho_rt {d : Div} : ∀ (r w : Nat) (b : List Int), (∀ k : Nat, k < b.length + r → may d k ≠ []) → choF d r w b ∈ rtF d r b
  | 0, _, b, _ => by simp [choF, rtF]
  | r + 1, w, b, h => by
    have hne := h b.length (by omega)
    have hpos := List.length_pos_iff.2 hne
    unfold choF rtF
    rw [List.mem_flatMap]
    split
    · refine ⟨_, ?_, cho_rt r (w / 3) _ fun k hk => h k (by simp at hk; omega)⟩
      have hlt : w % (may d b.length).length < (may d b.length).length := Nat.mod_lt _ hpos
      rw [getD_get hlt]; exact List.getElem_mem hlt
    · refine ⟨_, ?_, cho_rt r w _ fun k hk => h k (by simp at hk; omega)⟩
      rw [getD_get hpos]; exact List.getElem_mem hpos
theorem may_ne {d : Div} (ho : openI d = 0) : ∀ k : Nat, (k : Int) < d.n → may d k ≠ [] := fun k hk e => by
  obtain ⟨hr, hcl, hd⟩ := openI0 ho
  have : bothB d k = true := by rw [← may_nil]; simp [e]
  unfold clashB at hcl
  rw [List.find?_eq_none] at hcl
  exact hcl k (by simp; omega) this
theorem choL_rt {d : Div} (ho : openI d = 0) (w : Int) : choL d w ∈ rtOf d := cho_rt _ _ _ fun k hk => may_ne ho k (by have := right_n (openI0 ho).1; simp at hk; omega)
section
variable {d : Div} {a0 a1 n0 n1 p q : RV}
theorem cho_inner (hs : DivS d a0 a1 n0 n1 p q) (hb : Small d) {x L : Nat} {H : List Blk} (hL : L < H.length) (hc : H[L]? = some (.cells (rs (divC d a0 a1 n0 n1 p q)) ty_ref07_Division 0)) {v1 v5 : AV} :
    ∀ (k i : Nat) (mv : AV) (s : St), i + k = 3 → ekeep [1, 2, 5, 6, 7, 8] s.env = [(1, v1), (2, .own L 0 0), (5, v5), (6, i64 x), (7, mv), (8, i64 i)] → s.m.h.take H.length = H → GS s.m.h H.length ty_uint8 1 (ints .u8 ((([0, 1, 2] : List Int).take i).filter fun v => decide (v ∈ may d x))) ((([0, 1, 2] : List Int).take i).filter fun v => decide (v ∈ may d x)).length mv → s.defs = [] → (∀ y ∈ s.m.wr, L ≤ y) →
      ∃ s' mv', Loop C [1, 2, 5, 6, 7, 8] l_law07_chosen_0 s (.exit 2) s' ∧ s'.m.h.take H.length = H ∧ GS s'.m.h H.length ty_uint8 1 (ints .u8 (may d x)) (may d x).length mv' ∧ s'.defs = [] ∧ (∀ y ∈ s'.m.wr, L ≤ y) ∧ ekeep [1, 2, 5, 6, 7] s'.env = [(1, v1), (2, .own L 0 0), (5, v5), (6, i64 x), (7, mv')] := by
  have hd11 : (divC d a0 a1 n0 n1 p q).length = 11 := rfl
  intro k
  induction k with
  | zero =>
    intro i mv s hi he hm hG hd hw
    have h3 : i = 3 := by omega
    subst h3
    rw [show ([0, 1, 2] : List Int).take 3 = [0, 1, 2] from rfl, may_filter] at hG
    exact ⟨_, mv, .stop (.of fun K => by rw [he]; simp [l_law07_chosen_0]; rfl) (by simp), by simpa using hm, by simpa using hG, by simp [hd], by simpa using hw, by simp⟩
  | succ k ih =>
    intro i mv s hi he hm hG hd hw
    obtain ⟨M, hMM⟩ : ∃ M, M = s.m := ⟨_, rfl⟩
    obtain ⟨h, w⟩ := M
    rw [← hMM] at hm hG hw
    simp only at hm hG hw
    have hlh : H.length ≤ h.length := by
      have := congrArg List.length hm
      rw [List.length_take] at this; omega
    have e0 : ((i : Int) < 3) = True := eq_true (by omega)
    have w1 : IntKind.wrap .i64 ((i : Int) + 1) = i + 1 := by rw [w64] <;> omega
    have w8 : IntKind.wrap .u8 (i : Int) = i := by rw [wu8] <;> omega
    have hc' : h[L]? = some (.cells (rs (divC d a0 a1 n0 n1 p q)) ty_ref07_Division 0) := by rw [take_get hm hL]; exact hc
    obtain ⟨c1, k1⟩ := refMay_spec hs hb x i (by omega) { h := h, wr := w }
    have hi3 : ([0, 1, 2] : List Int).take (i + 1) = ([0, 1, 2] : List Int).take i ++ [(i : Int)] := by
      have : i = 0 ∨ i = 1 ∨ i = 2 := by omega
      rcases this with rfl | rfl | rfl <;> rfl
    obtain ⟨pr, hpr⟩ : ∃ pr, pr = (([0, 1, 2] : List Int).take i).filter fun v => decide (v ∈ may d x) := ⟨_, rfl⟩
    have hprl : pr.length ≤ 3 := by rw [hpr]; refine Nat.le_trans (List.length_filter_le _ _) ?_; rw [List.length_take]; exact Nat.min_le_right _ _
    rw [← hpr] at hG
    cases e3 : decide ((i : Int) ∈ may d x) with
    | false =>
      rw [e3] at k1
      have hrd : ∃ s1, Den C l_law07_chosen_0 { s with env := ekeep [1, 2, 5, 6, 7, 8] s.env } .norm s1 ∧ ekeep [1, 2, 5, 6, 7, 8] s1.env = [(1, v1), (2, .own L 0 0), (5, v5), (6, i64 x), (7, mv), (8, i64 (i + 1 : Nat))] ∧ s1.m = { h := h, wr := w } ∧ s1.defs = [] :=
        ⟨_, .ofN ⟨c1, fun n hn' => by rw [he]; simp [l_law07_chosen_0, ← hMM, e0, hc', hd11, w8, k1 n hn', w1]; rfl⟩, by simp, by simp, by simp [hd]⟩
      obtain ⟨s1, r1, r2, r3, r4⟩ := hrd
      obtain ⟨s', mv', g1, g2⟩ := ih (i + 1) mv s1 (by omega) r2 (by rw [r3]; exact hm) (by
        rw [r3, hi3, List.filter_append, show List.filter (fun v => decide (v ∈ may d x)) [(i : Int)] = [] by rw [List.filter_cons, e3]; rfl, List.append_nil, ← hpr]
        exact hG) r4 (by rw [r3]; exact hw)
      exact ⟨s', mv', .more r1 g1, g2⟩
    | true =>
      rw [e3] at k1
      obtain ⟨B, g, H', W', hA, hB, hG2, hfr, hBx, hl2, hkt, hW'⟩ := hG.app2 (new := [.lit (.int .u8 i)]) (k := 1) w 1 (some 1) hlh (by omega) rfl ⟨by omega, by omega⟩
      have hrd : ∃ s1, Den C l_law07_chosen_0 { s with env := ekeep [1, 2, 5, 6, 7, 8] s.env } .norm s1 ∧ ekeep [1, 2, 5, 6, 7, 8] s1.env = [(1, v1), (2, .own L 0 0), (5, v5), (6, i64 x), (7, .osl B g 0 (pr.length + 1) 1 none), (8, i64 (i + 1 : Nat))] ∧ s1.m = { h := H', wr := W' } ∧ s1.defs = [] :=
        ⟨_, .ofN ⟨c1, fun n hn' => by rw [he]; simp [l_law07_chosen_0, ← hMM, e0, hc', hd11, w8, k1 n hn', w1, allR, AV.toR, repl, hA]; rfl⟩, by simp, by simp, by simp [hd]⟩
      obtain ⟨s1, r1, r2, r3, r4⟩ := hrd
      obtain ⟨s', mv', g1, g2⟩ := ih (i + 1) (.osl B g 0 (pr.length + 1) 1 none) s1 (by omega) r2 (by rw [r3]; show H'.take H.length = H; rw [hkt]; exact hm) (by
        rw [r3, hi3, List.filter_append, show List.filter (fun v => decide (v ∈ may d x)) [(i : Int)] = [(i : Int)] by rw [List.filter_cons, e3]; rfl, ← hpr]
        rw [show ints .u8 (pr ++ [(i : Int)]) = ints .u8 pr ++ [.lit (.int .u8 i)] by simp [ints], show (pr ++ [(i : Int)]).length = pr.length + 1 by simp]
        exact hG2) r4 (by
        rw [r3]
        intro y hy
        rcases hW' y hy with h | h
        · exact hw y h
        · omega)
      exact ⟨s', mv', .more r1 g1, g2⟩
theorem cho_outer (hs : DivS d a0 a1 n0 n1 p q) (hb : Small d) (hn : 1 ≤ d.n ∧ d.n ≤ 40) (hne : ∀ k : Nat, (k : Int) < d.n → may d k ≠ []) {L : Nat} :
    ∀ (k : Nat) (b : List Int) (w : Nat) (ov : AV) (s : St), b.length + k = d.n.toNat → w < 4294967296 → ekeep [1, 2, 5, 6] s.env = [(1, .r (.lit (.int .u32 w))), (2, .own L 0 0), (5, ov), (6, i64 b.length)] → s.m.h[L]? = some (.cells (rs (divC d a0 a1 n0 n1 p q)) ty_ref07_Division 0) → GS s.m.h (L + 1) ty_uint8 1 (ints .u8 b) b.length ov → s.defs = [] → (∀ y ∈ s.m.wr, L ≤ y) →
      ∃ s' ov', Loop C [1, 2, 5, 6] l_law07_chosen_1 s (.exit 0) s' ∧ s'.m.h.take L = s.m.h.take L ∧ GS s'.m.h (L + 1) ty_uint8 1 (ints .u8 (choF d k w b)) (choF d k w b).length ov' ∧ s'.defs = [] ∧ (∀ y ∈ s'.m.wr, L ≤ y) ∧ eget s'.env 5 = ov' := by
  have hd11 : (divC d a0 a1 n0 n1 p q).length = 11 := rfl
  intro k
  induction k with
  | zero =>
    intro b w ov s hk hw32 he hc hG hd hw
    obtain ⟨M, hMM⟩ : ∃ M, M = s.m := ⟨_, rfl⟩
    obtain ⟨H, W⟩ := M
    rw [← hMM] at hc hG hw
    simp only at hc hG hw
    rw [← hMM]
    have e0 : ((b.length : Int) < d.n) = False := eq_false (by omega)
    exact ⟨_, ov, .stop (.of fun K => by rw [he]; simp [l_law07_chosen_1, ← hMM, hc, hd11, e0]; rfl) (by simp), by simp, by simpa [choF] using hG, by simp [hd], by simpa using hw, by simp⟩
  | succ k ih =>
    intro b w ov s hk hw32 he hc hG hd hw
    obtain ⟨M, hMM⟩ : ∃ M, M = s.m := ⟨_, rfl⟩
    obtain ⟨H, W⟩ := M
    rw [← hMM] at hc hG hw
    simp only at hc hG hw
    rw [← hMM]
    simp only
    have hLH := getElem?_lt hc
    have e0 : ((b.length : Int) < d.n) = True := eq_true (by omega)
    have w1 : IntKind.wrap .i64 ((b.length : Int) + 1) = b.length + 1 := by rw [w64] <;> omega
    obtain ⟨s2, mv, l2, t2, G2, d2, q2, e2⟩ := cho_inner hs hb (x := b.length) hLH hc (v1 := .r (.lit (.int .u32 w))) (v5 := ov) 3 0 (.r .nil) { s with env := [(8, i64 0), (7, .r .nil), (1, .r (.lit (.int .u32 w))), (2, .own L 0 0), (5, ov), (6, i64 b.length), (13, bo true)], m := { h := H, wr := W } } rfl (by simp) (by simp) (.nil rfl rfl) hd hw
    obtain ⟨c2, k2⟩ := l2.get
    have e2' : eget s2.env 1 = .r (.lit (.int .u32 w)) ∧ eget s2.env 2 = .own L 0 0 ∧ eget s2.env 5 = ov ∧ eget s2.env 6 = i64 b.length ∧ eget s2.env 7 = mv := by simpa [ekeep] using e2
    obtain ⟨f1, f2, f5, f6, f7⟩ := e2'
    obtain ⟨M2, hM2⟩ : ∃ M2, M2 = s2.m := ⟨_, rfl⟩
    obtain ⟨H2, W2⟩ := M2
    rw [← hM2] at t2 G2 q2
    simp only at t2 G2 q2
    obtain ⟨ms, hms⟩ : ∃ ms, ms = may d b.length := ⟨_, rfl⟩
    have hmne : ms ≠ [] := by rw [hms]; exact hne _ (by omega)
    have hmpos := List.length_pos_iff.2 hmne
    have hm3 : ms.length ≤ 3 := by rw [hms]; exact may_len3 _ _
    rw [← hms] at G2
    have hmlen : lenOf mv = some ms.length := (Arr.ofGS G2).len
    have hl2 : H.length ≤ H2.length := by
      have := congrArg List.length t2
      rw [List.length_take] at this; omega
    have hG2 : GS H2 (L + 1) ty_uint8 1 (ints .u8 b) b.length ov := hG.same fun j hj => by rw [take_get t2 (hG.idx j hj).2]
    -- which one, and what the word is then
    have hone : ∀ (ix : Nat) (w' : Nat), ix < ms.length → (1 < ms.length → ix = w % ms.length ∧ w' = w / 3) → (¬ 1 < ms.length → ix = 0 ∧ w' = w) → ∃ s' ov', Loop C [1, 2, 5, 6] l_law07_chosen_1 s (.exit 0) s' ∧ s'.m.h.take L = H.take L ∧ GS s'.m.h (L + 1) ty_uint8 1 (ints .u8 (choF d k w' (b ++ [ms.getD ix 0]))) (choF d k w' (b ++ [ms.getD ix 0])).length ov' ∧ s'.defs = [] ∧ (∀ y ∈ s'.m.wr, L ≤ y) ∧ eget s'.env 5 = ov' := by
      intro ix w' hix h1 h0
      obtain ⟨a, ha, hla⟩ := (Arr.ofGS G2).el ix hix
      have hla : loadV { h := H2, wr := W2 } a 1 false = some (u8 (ms.getD ix 0)) := hla W2
      obtain ⟨y, hy⟩ : ∃ y, y = ms.getD ix 0 := ⟨_, rfl⟩
      rw [← hy] at hla ⊢
      obtain ⟨B, g, H', W', hA, hB, hG3, hfr, hBx, hl3, hkt, hW'⟩ := hG2.app2 (new := [.lit (.int .u8 y)]) (k := 1) W2 1 (some 1) (by omega) (by omega) rfl ⟨by omega, by omega⟩
      have hw'32 : w' < 4294967296 := by
        by_cases h : 1 < ms.length
        · rw [(h1 h).2]; omega
        · rw [(h0 h).2]; exact hw32
      have hcH : H'[L]? = some (.cells (rs (divC d a0 a1 n0 n1 p q)) ty_ref07_Division 0) := by
        rw [take_get hkt (by omega), List.getElem?_take_of_lt (by omega), take_get t2 hLH]; exact hc
      have htL : H'.take L = H.take L := by
        have h1 := congrArg (List.take L) hkt
        rw [List.take_take, List.take_take, Nat.min_eq_left (by omega)] at h1
        have h2 := congrArg (List.take L) t2
        rw [List.take_take, Nat.min_eq_left (by omega)] at h2
        rw [h1, h2]
      have hrd : ∃ s1, Den C l_law07_chosen_1 { s with env := ekeep [1, 2, 5, 6] s.env } .norm s1 ∧ ekeep [1, 2, 5, 6] s1.env = [(1, .r (.lit (.int .u32 w'))), (2, .own L 0 0), (5, .osl B g 0 (b.length + 1) 1 none), (6, i64 (b.length + 1 : Nat))] ∧ s1.m = { h := H', wr := W' } ∧ s1.defs = [] := by
        by_cases h : 1 < ms.length
        · have hgt : (1 < (ms.length : Int)) = True := eq_true (by omega)
          have hgt' := eq_true h
          have hz : ((ms.length : Int) = 0) = False := eq_false (by omega)
          have hix2 := (h1 h).1
          have hw2 := (h1 h).2
          have ww : IntKind.wrap .i64 (w : Int) = w := by rw [w64] <;> omega
          have wd : IntKind.wrap .u32 ((w : Int).tdiv 3) = ((w / 3 : Nat) : Int) := by
            have : (w : Int).tdiv 3 = ((w / 3 : Nat) : Int) := by rw [Int.tdiv_eq_ediv_of_nonneg (by omega)]; rfl
            rw [this]
            unfold IntKind.wrap; simp [IntKind.bits, IntKind.signed]; omega
          have wd' : IntKind.wrap .u32 ((w : Int) / 3) = (w : Int) / 3 := by
            unfold IntKind.wrap; simp [IntKind.bits, IntKind.signed]; omega
          have wm : (w : Int).tmod (ms.length : Int) = (ix : Int) := by
            rw [Int.tmod_eq_emod_of_nonneg (by omega), hix2]; rfl
          rw [hw2]
          exact ⟨_, .ofN ⟨c2, fun n hn' => by
            have k2 := k2 n hn'
            rw [he]
            simp [l_law07_chosen_1, ← hMM, hc, hd11, e0, k2, f1, f2, f5, f6, f7, ← hM2, hmlen, hgt, hgt', hmne, hz, ww, wd, wd', wm, ha, hla, allR, AV.toR, repl, hA, w1]
            rfl⟩, by simp [wd'], by simp, by simp [d2]⟩
        · have hgt : (1 < (ms.length : Int)) = False := eq_false (by omega)
          have hgt' := eq_false h
          have hix2 := (h0 h).1
          have hw2 := (h0 h).2
          have ha0 : atOf 1 mv 0 = some a := by rw [hix2] at ha; exact ha
          rw [hw2]
          exact ⟨_, .ofN ⟨c2, fun n hn' => by
            have k2 := k2 n hn'
            rw [he]
            simp [l_law07_chosen_1, ← hMM, hc, hd11, e0, k2, f1, f2, f5, f6, f7, ← hM2, hmlen, hgt, hgt', ha0, hla, allR, AV.toR, repl, hA, w1]
            rfl⟩, by simp, by simp, by simp [d2]⟩
      obtain ⟨s1, r1, r2, r3, r4⟩ := hrd
      obtain ⟨s', ov', g1, g2, g3, g4, g5, g6⟩ := ih (b ++ [y]) w' (.osl B g 0 (b.length + 1) 1 none) s1 (by simp; omega) hw'32 (by rw [r2]; simp) (by rw [r3]; exact hcH) (by
        rw [r3]
        rw [show ints .u8 (b ++ [y]) = ints .u8 b ++ [.lit (.int .u8 y)] by simp [ints], show (b ++ [y]).length = b.length + 1 by simp]
        exact hG3) r4 (by
        rw [r3]
        intro z hz
        rcases hW' z hz with h | h
        · exact q2 z h
        · omega)
      rw [r3] at g2
      exact ⟨s', ov', .more r1 g1, g2.trans htL, g3, g4, g5, g6⟩
    have hch : choF d (k + 1) w b = if 1 < ms.length then choF d k (w / 3) (b ++ [ms.getD (w % ms.length) 0]) else choF d k w (b ++ [ms.getD 0 0]) := by rw [hms]; rfl
    rw [hch]
    by_cases h : 1 < ms.length
    · rw [if_pos h]
      exact hone (w % ms.length) (w / 3) (Nat.mod_lt _ hmpos) (fun _ => ⟨rfl, rfl⟩) (fun h' => absurd h h')
    · rw [if_neg h]
      exact hone 0 w hmpos (fun h' => absurd h' h) (fun _ => ⟨rfl, rfl⟩)
end
end Go.AM.T
/- What the functions compute (own work). -/
namespace Go.AM.T
open Go Go.AM
attribute [local simp] so_mov so_pick so_alloc so_box so_build so_slit so_load so_store so_nilc so_bin so_beq so_eqs so_eqn so_eqnl so_not so_conv so_s2b so_mkfn so_slcA so_padd so_fld so_idxA so_idxV so_idxT so_look so_mupd so_mkmap so_mksl so_ext so_app so_lenT so_lenM so_min so_max so_cpy so_clr so_mkif so_tass so_lenS so_idxS so_slc
attribute [local simp] dn_skip dn_label dn_ret dn_exit dn_scope dn_keep dn_reg dn_draw0 noSlots denE denEI stepE  sd_mov sd_pick sd_build sd_load sd_store sd_nilc sd_bin sd_beq sd_eqs sd_eqn sd_eqnl sd_not sd_conv sd_s2b sd_mkfn sd_slc sd_slcA sd_padd sd_fld sd_idxS sd_idxA sd_idxV sd_idxT sd_look sd_mupd sd_ext sd_app sd_lenS sd_lenT sd_lenM sd_min sd_max sd_mkif sd_tass sd_call sd_slit dn_seq dn_cond dn_block dn_loop kn_call denIs denI denOp wants ev eget putD binL enumFrom AV.bool? AV.int? ekeep evs evp runV fin runDefs resAll resOf tupOf unit AV.cells okV ok1 Value.oneCell' fill setN rcells rs_nil rs_cons load_own load_cons mkAgg_rs storeN jmpOut
attribute [local simp] dvL dv1t dvAt mkAgg2 dv0 dv1 dv2 dv3 dv4 dv5 dv6 dv7 dv8 dv9 dv10 dvA dvN dvAll C_fz fzr
/-- The truths that fit: what they are, member by member. -/
theorem rtF_get {d : Div} : ∀ (r : Nat) (b u : List Int), u ∈ rtF d r b → ∀ i, i < b.length → u.getD i 0 = b.getD i 0
  | 0, b, u, h, i, _ => by unfold rtF at h; simp at h; rw [h]
  | r + 1, b, u, h, i, hi => by
    unfold rtF at h
    obtain ⟨v, _, hu⟩ := List.mem_flatMap.1 h
    rw [rtF_get r (b ++ [v]) u hu i (by simp; omega), List.getD_eq_getElem?_getD, List.getElem?_append_left hi, List.getD_eq_getElem?_getD]
theorem rtF_may {d : Div} : ∀ (r : Nat) (b u : List Int), u ∈ rtF d r b → ∀ i, b.length ≤ i → i < b.length + r → u.getD i 0 ∈ may d i
  | 0, b, u, h, i, h1, h2 => by omega
  | r + 1, b, u, h, i, h1, h2 => by
    unfold rtF at h
    obtain ⟨v, hv, hu⟩ := List.mem_flatMap.1 h
    by_cases e : i = b.length
    · subst e
      rw [rtF_get r (b ++ [v]) u hu b.length (by simp)]
      simpa using hv
    · exact rtF_may r (b ++ [v]) u hu i (by simp; omega) (by simp; omega)
theorem rt_fits {d : Div} {u : List Int} (hu : u ∈ rtOf d) : fitsB' d u = true := by
  unfold fitsB'
  rw [List.all_eq_true]
  intro i hi
  exact decide_eq_true (rtF_may _ _ _ hu i (by simp) (by simpa using hi))
theorem rt_truth {d : Div} (hn : 0 ≤ d.n) {u : List Int} (hu : u ∈ rtOf d) : truthB' d u = true := by
  obtain ⟨h1, h2⟩ := rt_ok u hu
  unfold truthB'
  rw [Bool.and_eq_true, List.all_eq_true]
  refine ⟨fun x hx => decide_eq_true ?_, decide_eq_true (by omega)⟩
  have := h2 x hx
  omega
theorem rt_cnt {d : Div} (ho : openI d = 0) {u : List Int} (hu : u ∈ rtOf d) : cntE d u = 0 := by
  obtain ⟨hr, hcl, hd⟩ := openI0 ho
  unfold cntE
  rw [if_pos hr, if_pos (rt_truth (by have := right_n hr; omega) hu), if_pos (by unfold faultI; rw [if_pos hr, hcl]; rfl), if_pos (rt_fits hu)]
theorem alS_rt {d : Div} (ho : openI d = 0) {u : List Int} (hu : u ∈ rtOf d) : outcomeI d (numsL d u) ∈ alS d := by
  have hn := right_n (openI0 ho).1
  have hm : outcomeI d (numsL d u) ∈ alL d := by
    rw [alL_mem, truthsOf_rt hn.2]
    exact ⟨pad u, List.mem_map_of_mem hu, by rw [nums_pad]⟩
  unfold alS
  rw [List.mem_filter]
  exact ⟨by have := (alL_ok d).2 _ hm; rcases this with h | h | h <;> rw [h] <;> simp, by simpa using hm⟩
section
variable {d : Div} {a0 a1 n0 n1 p q : RV}
theorem ready_spec (hs : DivS d a0 a1 n0 n1 p q) (hb : Small d) (m : Mem) : CallR C (fnv fn_law07_ready) [.r (.agg (divC d a0 a1 n0 n1 p q))] m (.ret (bo (fewB d && decide (openI d = 0))) m) := by
  obtain ⟨H, hH⟩ : ∃ H, H = m.h ++ [.cells (rs (divC d a0 a1 n0 n1 p q)) ty_ref07_Division 0] := ⟨_, rfl⟩
  have hc : H[m.h.length]? = some (.cells (rs (divC d a0 a1 n0 n1 p q)) ty_ref07_Division 0) := by simp [hH]
  have ht : H.take m.h.length = m.h := by simp [hH]
  have hd11 : (divC d a0 a1 n0 n1 p q).length = 11 := rfl
  obtain ⟨c0, k0⟩ := Few_spec hs { h := H }
  obtain ⟨c1, k1⟩ := lawopen_spec hs hb { h := H }
  cases ef : fewB d with
  | false =>
    rw [ef] at k0
    exact CallR.eval (m1 := { h := H }) rfl rfl prog_law07_ready rfl ⟨c0, fun k hk => by simp [a_law07_ready, ← hH, hc, hd11, k0 k (by omega)]⟩ ht (by simp)
  | true =>
    rw [ef] at k0
    obtain ⟨z, hz⟩ : ∃ z, z = openI d := ⟨_, rfl⟩
    rw [← hz] at k1 ⊢
    refine CallR.eval (m1 := { h := H }) rfl rfl prog_law07_ready rfl ⟨c0 + c1, fun k hk => ?_⟩ ht (by simp)
    by_cases e : z = 0
    · simp [a_law07_ready, ← hH, hc, hd11, k0 k (by omega), k1 k (by omega), e]
    · have e' : (z == 0) = false := by simpa using e
      simp [a_law07_ready, ← hH, hc, hd11, k0 k (by omega), k1 k (by omega), e, e']
end
end Go.AM.T
/- What the functions compute (own work). -/
namespace Go.AM.T
open Go Go.AM
attribute [local simp] so_mov so_pick so_alloc so_box so_build so_slit so_load so_store so_nilc so_bin so_beq so_eqs so_eqn so_eqnl so_not so_conv so_s2b so_mkfn so_slcA so_padd so_fld so_idxA so_idxV so_idxT so_look so_mupd so_mkmap so_mksl so_ext so_app so_lenT so_lenM so_min so_max so_cpy so_clr so_mkif so_tass so_lenS so_idxS so_slc
attribute [local simp] dn_skip dn_label dn_ret dn_exit dn_scope dn_keep dn_reg dn_draw0 noSlots denE denEI stepE  sd_mov sd_pick sd_build sd_load sd_store sd_nilc sd_bin sd_beq sd_eqs sd_eqn sd_eqnl sd_not sd_conv sd_s2b sd_mkfn sd_slc sd_slcA sd_padd sd_fld sd_idxS sd_idxA sd_idxV sd_idxT sd_look sd_mupd sd_ext sd_app sd_lenS sd_lenT sd_lenM sd_min sd_max sd_mkif sd_tass sd_call sd_slit dn_seq dn_cond dn_block dn_loop kn_call denIs denI denOp wants ev eget putD binL enumFrom AV.bool? AV.int? ekeep evs evp runV fin runDefs resAll resOf tupOf unit AV.cells okV ok1 Value.oneCell' fill setN rcells rs_nil rs_cons load_own load_cons mkAgg_rs storeN jmpOut
attribute [local simp] dvL dv1t dvAt mkAgg2 dv0 dv1 dv2 dv3 dv4 dv5 dv6 dv7 dv8 dv9 dv10 dvA dvN dvAll C_fz fzr
theorem pig : ∀ (n : Nat) (l : List Int), l.Nodup → (∀ x ∈ l, 0 ≤ x ∧ x < (n : Int)) → l.length ≤ n
  | 0, l, _, h => by
    cases l with
    | nil => simp
    | cons x r => have := h x (by simp); omega
  | n + 1, l, hd, h => by
    have h1 := pig n (l.erase n) (hd.erase _) fun x hx => by
      rw [hd.mem_erase_iff] at hx
      have := h x hx.2
      have := hx.1
      omega
    have h2 : l.length ≤ (l.erase n).length + 1 := by
      by_cases hm : (n : Int) ∈ l
      · rw [List.length_erase_of_mem hm]; omega
      · rw [List.erase_of_not_mem hm]; omega
    omega
def ends (l : List (Int × Int)) : List Int := l.flatMap fun p => [p.1, p.2]
theorem pairsP_nd {n : Int} : ∀ (l : List (Int × Int)) (S : List Int), pairsP n S l = true → S.Nodup → (S ++ ends l).Nodup
  | [], S, _, h => by simpa [ends] using h
  | p :: r, S, h, hS => by
    unfold pairsP at h
    simp only [Bool.and_eq_true, Bool.not_eq_true'] at h
    obtain ⟨⟨⟨h1, h2⟩, h3⟩, h4⟩ := h
    have h2 : p.1 ∉ S := by simpa using h2
    have h3 : p.2 ∉ S := by simpa using h3
    have hne : p.1 ≠ p.2 := by
      unfold pairBad at h1
      simp only [Bool.or_eq_false_iff, beq_eq_false_iff_ne] at h1
      exact h1.2
    have := pairsP_nd r (S ++ [p.1, p.2]) h4 (by
      rw [List.nodup_append]
      refine ⟨hS, by simp [hne], fun a ha b hb => ?_⟩
      intro e
      subst e
      simp at hb
      rcases hb with rfl | rfl
      · exact h2 ha
      · exact h3 ha)
    rw [List.append_assoc] at this
    simpa [ends] using this
theorem ends_len (l : List (Int × Int)) : (ends l).length = 2 * l.length := by
  induction l with
  | nil => rfl
  | cons p r ih =>
    have : ends (p :: r) = p.1 :: p.2 :: ends r := by simp [ends]
    rw [this]; simp [ih]; omega
theorem paired_ends (l : List (Int × Int)) (i : Nat) : paired l i = true ↔ (i : Int) ∈ ends l := by
  unfold paired ends
  rw [List.any_eq_true, List.mem_flatMap]
  constructor
  · rintro ⟨p, hp, h⟩
    refine ⟨p, hp, ?_⟩
    rw [Bool.or_eq_true, beq_iff_eq, beq_iff_eq] at h
    rcases h with h | h <;> simp [h]
  · rintro ⟨p, hp, h⟩
    refine ⟨p, hp, ?_⟩
    rw [Bool.or_eq_true, beq_iff_eq, beq_iff_eq]
    simp at h
    rcases h with h | h
    · exact .inl h.symm
    · exact .inr h.symm
def tot (n : Int × Int) : Int := n.1 + n.2
theorem cnt_tot (n : Int × Int) (v : Int) : tot (cnt n v) ≤ tot n + (if v = 0 then 0 else 1) := by
  unfold cnt tot
  split
  · rename_i h; rw [if_neg (by omega)]; simp only; omega
  · split
    · rename_i h; rw [if_neg (by omega)]; simp only; omega
    · split <;> omega
def actM (d : Div) (t : List Int) (i : Nat) : Bool := !paired d.pairs i && decide (tg t i ≠ 0)
def actP (d : Div) (t : List Int) (p : Int × Int) : Bool := !paired d.pairs p.2.toNat && decide (tg t p.2.toNat = 0)
theorem numsM_tot (d : Div) (t : List Int) : ∀ k : Nat, tot (numsM d t k) ≤ ((List.range k).filter (actM d t)).length
  | 0 => by simp [numsM, tot]
  | k + 1 => by
    have ih := numsM_tot d t k
    have e : numsM d t (k + 1) = memStep d t (numsM d t k) k := by unfold numsM; rw [List.range_succ, List.foldl_append]; rfl
    rw [e, List.range_succ, List.filter_append, List.length_append]
    unfold memStep
    cases hp : paired d.pairs k with
    | true => simp only [if_true]; push_cast; omega
    | false =>
      rw [if_neg (by simp)]
      have := cnt_tot (numsM d t k) (tg t k)
      by_cases h0 : tg t k = 0
      · rw [if_pos h0] at this; push_cast; omega
      · rw [if_neg h0] at this
        have ha : actM d t k = true := by unfold actM; rw [hp]; simpa using h0
        rw [List.filter_cons, ha]; simp; omega
theorem prox_tot (d : Div) (t : List Int) : ∀ (l : List (Int × Int)) (n : Int × Int), tot (l.foldl (proxStep d t) n) ≤ tot n + (l.filter (actP d t)).length
  | [], n => by simp
  | p :: l, n => by
    have ih := prox_tot d t l (proxStep d t n p)
    have : tot (proxStep d t n p) ≤ tot n + (if actP d t p = true then 1 else 0) := by
      unfold proxStep
      split
      · rename_i h
        have ha : actP d t p = true := by unfold actP; rw [h.2.1, h.1]; rfl
        rw [if_pos ha]
        have := cnt_tot n (tg t p.1.toNat)
        split at this <;> omega
      · split <;> omega
    rw [List.foldl_cons, List.filter_cons]
    split
    · rename_i h; rw [if_pos h] at this; simp only [List.length_cons]; push_cast; omega
    · rename_i h; rw [if_neg h] at this; omega
/-- No more votes count than members are in no pair. -/
theorem nums_tot {d : Div} (hr : rightB d = true) (t : List Int) : (numsL d t).1 + (numsL d t).2 ≤ d.n - 2 * d.pairs.length := by
  have hn := right_n hr
  have hrp := right_prox hr
  have hr2 := hr
  unfold rightB at hr2
  simp only [Bool.and_eq_true] at hr2
  obtain ⟨⟨_, hpo⟩, hpx⟩ := hr2
  have hmem := pairsOk_mem d.pairs [] hpo
  rw [← pairsP_ok] at hpo
  have hnd := pairsP_nd d.pairs _ hpo (by simp)
  rw [List.flatMap_nil, List.nil_append] at hnd
  have hpnd : (d.proxies.map (·.2)).Nodup := by
    have := proxB d.n d.proxies
    rw [hpx] at this
    split at this
    · rename_i S hS
      obtain ⟨h1, h2, h3, _⟩ := proxP_some d.proxies [] S hS
      exact h3
    · cases this
  have h1 := numsM_tot d t d.n.toNat
  have h2 := prox_tot d t d.proxies (numsM d t d.n.toNat)
  have hu : ((List.range d.n.toNat).map fun i : Nat => (i : Int)).Nodup := by
    rw [List.nodup_iff_pairwise_ne, List.pairwise_map]
    exact List.nodup_range.imp fun h e => h (by omega)
  have hbig : ((((List.range d.n.toNat).filter (actM d t)).map fun i : Nat => (i : Int)) ++ ((d.proxies.filter (actP d t)).map (·.2) ++ ends d.pairs)).Nodup := by
    rw [List.nodup_append]
    refine ⟨hu.sublist (List.Sublist.map _ List.filter_sublist), ?_, ?_⟩
    · rw [List.nodup_append]
      refine ⟨hpnd.sublist (List.Sublist.map _ List.filter_sublist), hnd, ?_⟩
      intro a ha b hb e
      subst e
      obtain ⟨p, hp, rfl⟩ := List.mem_map.1 ha
      rw [List.mem_filter] at hp
      have hx := hrp p hp.1
      have : paired d.pairs p.2.toNat = true := (paired_ends _ _).2 (by rw [show ((p.2.toNat : Nat) : Int) = p.2 by omega]; exact hb)
      have h3 := hp.2
      unfold actP at h3
      rw [this] at h3
      cases h3
    · intro a ha b hb e
      subst e
      obtain ⟨i, hi, rfl⟩ := List.mem_map.1 ha
      rw [List.mem_filter] at hi
      have h3 := hi.2
      unfold actM at h3
      simp only [Bool.and_eq_true, Bool.not_eq_true', decide_eq_true_eq] at h3
      rcases List.mem_append.1 hb with hb | hb
      · obtain ⟨p, hp, he⟩ := List.mem_map.1 hb
        rw [List.mem_filter] at hp
        have h4 := hp.2
        unfold actP at h4
        rw [he] at h4
        simp only [Bool.and_eq_true, Bool.not_eq_true', decide_eq_true_eq] at h4
        exact h3.2 (by simpa using h4.2)
      · rw [← paired_ends, h3.1] at hb
        cases hb
  have hlen := pig d.n.toNat _ hbig (by
    intro x hx
    rcases List.mem_append.1 hx with hx | hx
    · obtain ⟨i, hi, rfl⟩ := List.mem_map.1 hx
      rw [List.mem_filter, List.mem_range] at hi
      omega
    · rcases List.mem_append.1 hx with hx | hx
      · obtain ⟨p, hp, rfl⟩ := List.mem_map.1 hx
        have := hrp p (List.mem_filter.1 hp).1
        omega
      · unfold ends at hx
        obtain ⟨p, hp, hx⟩ := List.mem_flatMap.1 hx
        have hb := hmem p hp
        unfold pairBad memB at hb
        simp at hb hx
        rcases hx with rfl | rfl <;> omega)
  rw [List.length_append, List.length_append, List.length_map, List.length_map, ends_len] at hlen
  unfold tot at h1 h2
  unfold numsL
  omega
/-- A pair's votes do not count. -/
theorem nums_off {d : Div} {t u : List Int} (h : ∀ i, paired d.pairs i = false → tg t i = tg u i) : numsL d t = numsL d u := by
  have hm : memStep d t = memStep d u := by
    funext n i
    unfold memStep
    cases hp : paired d.pairs i with
    | true => rfl
    | false => simp only [Bool.false_eq_true, if_false]; rw [h i hp]
  have hp : proxStep d t = proxStep d u := by
    funext n p
    unfold proxStep
    cases h2 : paired d.pairs p.2.toNat with
    | true => simp
    | false =>
      cases h1 : paired d.pairs p.1.toNat with
      | true => simp
      | false => rw [h _ h2, h _ h1]
  unfold numsL numsM
  rw [hm, hp]
end Go.AM.T
/- What the functions compute (own work). -/
namespace Go.AM.T
open Go Go.AM
attribute [local simp] so_mov so_pick so_alloc so_box so_build so_slit so_load so_store so_nilc so_bin so_beq so_eqs so_eqn so_eqnl so_not so_conv so_s2b so_mkfn so_slcA so_padd so_fld so_idxA so_idxV so_idxT so_look so_mupd so_mkmap so_mksl so_ext so_app so_lenT so_lenM so_min so_max so_cpy so_clr so_mkif so_tass so_lenS so_idxS so_slc
attribute [local simp] dn_skip dn_label dn_ret dn_exit dn_scope dn_keep dn_reg dn_draw0 noSlots denE denEI stepE  sd_mov sd_pick sd_build sd_load sd_store sd_nilc sd_bin sd_beq sd_eqs sd_eqn sd_eqnl sd_not sd_conv sd_s2b sd_mkfn sd_slc sd_slcA sd_padd sd_fld sd_idxS sd_idxA sd_idxV sd_idxT sd_look sd_mupd sd_ext sd_app sd_lenS sd_lenT sd_lenM sd_min sd_max sd_mkif sd_tass sd_call sd_slit dn_seq dn_cond dn_block dn_loop kn_call denIs denI denOp wants ev eget putD binL enumFrom AV.bool? AV.int? ekeep evs evp runV fin runDefs resAll resOf tupOf unit AV.cells okV ok1 Value.oneCell' fill setN rcells rs_nil rs_cons load_own load_cons mkAgg_rs storeN jmpOut
attribute [local simp] dvL dv1t dvAt mkAgg2 dv0 dv1 dv2 dv3 dv4 dv5 dv6 dv7 dv8 dv9 dv10 dvA dvN dvAll C_fz fzr
section
variable {d : Div} {a0 a1 n0 n1 p q : RV}
/-- The votes that a law chooses, kept where they are. -/
theorem chosenK_spec (hs : DivS d a0 a1 n0 n1 p q) (hb : Small d) (ho : openI d = 0) {w : Int} (hw : 0 ≤ w ∧ w ≤ 4294967295) (m : Mem) : ∃ B g H', CallR C (fnv fn_law07_chosen) [.r (.agg (divC d a0 a1 n0 n1 p q)), .r (.lit (.int .u32 w))] m (.ret (.osl B g 0 (choL d w).length 1 none) { h := H', wr := m.wr }) ∧
    H'.take m.h.length = m.h ∧ m.h.length ≤ B ∧ B < H'.length ∧ H'[B]? = some (.cells (rs (ints .u8 (choL d w))) ty_uint8 g) := by
  obtain ⟨H, hH⟩ : ∃ H, H = m.h ++ [.cells (rs (divC d a0 a1 n0 n1 p q)) ty_ref07_Division 0] := ⟨_, rfl⟩
  have hc : H[m.h.length]? = some (.cells (rs (divC d a0 a1 n0 n1 p q)) ty_ref07_Division 0) := by simp [hH]
  have ht : H.take m.h.length = m.h := by simp [hH]
  have hn := right_n (openI0 ho).1
  have hwn : ((w.toNat : Nat) : Int) = w := by omega
  obtain ⟨s', ov', l1, t1, G1, d1, q1, e1⟩ := cho_outer hs hb hn (may_ne ho) (L := m.h.length) d.n.toNat [] w.toNat (.r .nil) { env := [(6, i64 0), (5, .r .nil), (1, .r (.lit (.int .u32 w))), (2, .own m.h.length 0 0)], m := { h := H } } (by simp) (by omega) (by simp [hwn]) hc (.nil rfl rfl) rfl (by simp)
  obtain ⟨c1, k1⟩ := l1.get
  rw [show choF d d.n.toNat w.toNat [] = choL d w from rfl] at G1
  have hlen : (choL d w).length = d.n.toNat := (rt_ok _ (choL_rt ho w)).1
  have hold : oldWr m.h.length s'.m.wr = [] := by
    unfold oldWr
    rw [List.filter_eq_nil_iff]
    intro x hx
    have := q1 x hx
    simpa using this
  cases G1 with
  | nil z1 z2 => omega
  | osl B g z1 z2 z3 z4 =>
    refine ⟨B, g, s'.m.h, ?_, t1.trans ht, by omega, getElem?_lt z2, z2⟩
    have := CallR.fnR (a := []) (b := []) (CallR.evalK (C := C) (f := fn_law07_chosen) (a := rs []) (b := rs []) (args := [.r (.agg (divC d a0 a1 n0 n1 p q)), .r (.lit (.int .u32 w))]) (m := m) (m1 := s'.m) (v := .osl B g 0 (choL d w).length 1 none) rfl rfl prog_law07_chosen rfl ⟨c1, fun k hk => by
      simp [runK, finK, a_law07_chosen, ← hH, k1 k hk, d1, e1]⟩)
    rw [hold, List.nil_append] at this
    exact this
end
end Go.AM.T
/- What the functions compute (own work). -/
namespace Go.AM.T
open Go Go.AM
attribute [local simp] so_mov so_pick so_alloc so_box so_build so_slit so_load so_store so_nilc so_bin so_beq so_eqs so_eqn so_eqnl so_not so_conv so_s2b so_mkfn so_slcA so_padd so_fld so_idxA so_idxV so_idxT so_look so_mupd so_mkmap so_mksl so_ext so_app so_lenT so_lenM so_min so_max so_cpy so_clr so_mkif so_tass so_lenS so_idxS so_slc
attribute [local simp] dn_skip dn_label dn_ret dn_exit dn_scope dn_keep dn_reg dn_draw0 noSlots denE denEI stepE  sd_mov sd_pick sd_build sd_load sd_store sd_nilc sd_bin sd_beq sd_eqs sd_eqn sd_eqnl sd_not sd_conv sd_s2b sd_mkfn sd_slc sd_slcA sd_padd sd_fld sd_idxS sd_idxA sd_idxV sd_idxT sd_look sd_mupd sd_ext sd_app sd_lenS sd_lenT sd_lenM sd_min sd_max sd_mkif sd_tass sd_call sd_slit dn_seq dn_cond dn_block dn_loop kn_call denIs denI denOp wants ev eget putD binL enumFrom AV.bool? AV.int? ekeep evs evp runV fin runDefs resAll resOf tupOf unit AV.cells okV ok1 Value.oneCell' fill setN rcells rs_nil rs_cons load_own load_cons mkAgg_rs storeN jmpOut
attribute [local simp] dvL dv1t dvAt mkAgg2 dv0 dv1 dv2 dv3 dv4 dv5 dv6 dv7 dv8 dv9 dv10 dvA dvN dvAll C_fz fzr
theorem getD_set (l : List Int) (a i : Nat) (x : Int) (ha : a < l.length) : (l.set a x).getD i 0 = if i = a then x else l.getD i 0 := by
  rw [List.getD_eq_getElem?_getD, List.getD_eq_getElem?_getD, List.getElem?_set]
  by_cases e : i = a
  · subst e; simp [ha]
  · have : a ≠ i := fun h => e h.symm
    simp [e, this]
/-- A truth with a pair's votes out of another. -/
def mixL (u v : List Int) (a b : Nat) : List Int := (u.set a (v.getD a 0)).set b (v.getD b 0)
theorem mix_len (u v : List Int) (a b : Nat) : (mixL u v a b).length = u.length := by simp [mixL]
theorem mix_get {u v : List Int} {a b : Nat} (ha : a < u.length) (hb : b < u.length) (i : Nat) : (mixL u v a b).getD i 0 = if i = b ∨ i = a then v.getD i 0 else u.getD i 0 := by
  unfold mixL
  rw [getD_set _ _ _ _ (by simpa using hb), getD_set _ _ _ _ ha]
  by_cases e : i = b
  · simp [e]
  · by_cases e2 : i = a
    · rw [if_neg e, if_pos e2, if_pos (.inr e2), e2]
    · simp [e, e2]
theorem mix_cnt {d : Div} (ho : openI d = 0) {u v : List Int} (hu : u ∈ rtOf d) (hv : v ∈ rtOf d) {a b : Nat} (ha : a < u.length) (hb : b < u.length) : cntE d (mixL u v a b) = 0 := by
  obtain ⟨hr, hcl, hd⟩ := openI0 ho
  obtain ⟨lu, ou⟩ := rt_ok u hu
  obtain ⟨lv, ov⟩ := rt_ok v hv
  have hn := right_n hr
  have hf1 := rt_fits hu
  have hf2 := rt_fits hv
  unfold fitsB' at hf1 hf2
  rw [List.all_eq_true] at hf1 hf2
  have hfit : ∀ i : Nat, i < d.n.toNat → (mixL u v a b).getD i 0 ∈ may d i := fun i hi => by
    rw [mix_get ha hb]
    split
    · exact of_decide_eq_true (hf2 i (by simpa using hi))
    · exact of_decide_eq_true (hf1 i (by simpa using hi))
  have ht : truthB' d (mixL u v a b) = true := by
    unfold truthB'
    rw [Bool.and_eq_true, List.all_eq_true]
    refine ⟨fun x hx => decide_eq_true ?_, decide_eq_true (by rw [mix_len]; omega)⟩
    obtain ⟨i, hi, rfl⟩ := List.getElem_of_mem hx
    rw [mix_len] at hi
    have := may_ok (hfit i (by omega))
    rw [getD_get (by rw [mix_len]; exact hi)] at this
    omega
  have hft : fitsB' d (mixL u v a b) = true := by
    unfold fitsB'
    rw [List.all_eq_true]
    exact fun i hi => decide_eq_true (hfit i (by simpa using hi))
  unfold cntE
  rw [if_pos hr, if_pos ht, if_pos (by unfold faultI; rw [if_pos hr, hcl]; rfl), if_pos hft]
theorem mix_nums {d : Div} {u v : List Int} {a b : Nat} (ha : a < u.length) (hb : b < u.length) (hp : ((a : Int), (b : Int)) ∈ d.pairs) : numsL d (mixL u v a b) = numsL d u := by
  refine nums_off fun i hi => ?_
  unfold tg
  rw [mix_get ha hb, if_neg]
  intro e
  have : paired d.pairs i = true := by
    unfold paired
    rw [List.any_eq_true]
    refine ⟨_, hp, ?_⟩
    rcases e with e | e <;> simp [e]
  rw [hi] at this
  cases this
section
variable {d : Div} {a0 a1 n0 n1 p q : RV}
theorem TallyPairs_spec (hs : DivS d a0 a1 n0 n1 p q) (hb : Small d) (hru : 0 ≤ d.rule ∧ d.rule ≤ 255) {w w2 : Int} (hw : 0 ≤ w ∧ w ≤ 4294967295) (hw2 : 0 ≤ w2 ∧ w2 ≤ 4294967295) {x : Int} (hx : 0 ≤ x ∧ x ≤ 255) : CallR C (fnv fn_law07_TallyPairs) [.r (.agg (divC d a0 a1 n0 n1 p q)), .r (.lit (.int .u32 w)), .r (.lit (.int .u32 w2)), u8 x] { h := [] } (.ret (bo true) { h := [] }) := by
  have hd11 : (divC d a0 a1 n0 n1 p q).length = 11 := rfl
  obtain ⟨H0, hH0⟩ : ∃ H : List Blk, H = [.cells (rs (divC d a0 a1 n0 n1 p q)) ty_ref07_Division 0] := ⟨_, rfl⟩
  obtain ⟨c1, k1⟩ := ready_spec hs hb { h := H0 }
  obtain ⟨c2, k2⟩ := wakes_spec { h := H0 }
  have g0 : H0[0]? = some (.cells (rs (divC d a0 a1 n0 n1 p q)) ty_ref07_Division 0) := by rw [hH0]; rfl
  have l0 : H0.length = 1 := by rw [hH0]; rfl
  obtain ⟨D, hD⟩ : ∃ D, D = divC d a0 a1 n0 n1 p q := ⟨_, rfl⟩
  cases hrdy : (fewB d && decide (openI d = 0)) with
  | false =>
    rw [hrdy] at k1
    rw [← hD] at k1 hH0 g0 hd11 ⊢
    have hDt : List.take 11 (rs D) = rs D := List.take_of_length_le (by rw [rs_len]; omega)
    exact CallR.eval (m1 := { h := H0 }) rfl rfl prog_law07_TallyPairs rfl ⟨c1 + c2, fun k hk => by simp [a_law07_TallyPairs, rs_len, hd11, hDt, ← hH0, g0, gq g0, k1 k (by omega), k2 k (by omega)]⟩ (by simp) (by simp)
  | true =>
  rw [hrdy] at k1
  have hfo : fewB d = true ∧ openI d = 0 := by
    rw [Bool.and_eq_true, decide_eq_true_eq] at hrdy
    exact hrdy
  obtain ⟨hfew, ho⟩ := hfo
  have hr := (openI0 ho).1
  have hn := right_n hr
  have hpl := right_len hr
  obtain ⟨B, g, H1, ⟨c3, k3⟩, t1, hB1, hB2, gB⟩ := chosenK_spec hs hb ho hw { h := H0 }
  obtain ⟨B', g', H2, ⟨c4, k4⟩, t2, hB1', hB2', gB'⟩ := chosenK_spec hs hb ho hw2 { h := H1 }
  simp only at t1 hB1 t2 hB1' k3 k4
  obtain ⟨u, hu⟩ : ∃ u, u = choL d w := ⟨_, rfl⟩
  obtain ⟨v, hv⟩ : ∃ v, v = choL d w2 := ⟨_, rfl⟩
  have hum : u ∈ rtOf d := by rw [hu]; exact choL_rt ho w
  have hvm : v ∈ rtOf d := by rw [hv]; exact choL_rt ho w2
  rw [← hu] at k3 gB
  rw [← hv] at k4 gB'
  obtain ⟨hul, huo⟩ := rt_ok u hum
  obtain ⟨hvl, hvo⟩ := rt_ok v hvm
  obtain ⟨n, hnn⟩ : ∃ n, n = d.n.toNat := ⟨_, rfl⟩
  rw [← hnn] at hul hvl
  rw [hul] at k3
  rw [hvl] at k4
  have l1 : 1 ≤ H1.length := by omega
  have l2 : H1.length ≤ H2.length := by
    have := congrArg List.length t2
    rw [List.length_take] at this; omega
  have g1 : H1[0]? = some (.cells (rs (divC d a0 a1 n0 n1 p q)) ty_ref07_Division 0) := by rw [take_get t1 (by omega)]; exact g0
  have g2 : H2[0]? = some (.cells (rs (divC d a0 a1 n0 n1 p q)) ty_ref07_Division 0) := by rw [take_get t2 (by omega)]; exact g1
  have gB2 : H2[B]? = some (.cells (rs (ints .u8 u)) ty_uint8 g) := by rw [take_get t2 (by omega)]; exact gB
  -- the copy
  obtain ⟨H3, hH3⟩ : ∃ H3, H3 = H2 ++ [.cells (rs (ints .u8 u)) ty_uint8 0] := ⟨_, rfl⟩
  have hA : appendA { h := H2 } ty_uint8 1 1 (.r (.sl [] 0 (some 0))) (.osl B g 0 n 1 none) = some (.osl H2.length 0 0 n 1 none, { h := H3 }) := by
    have hcl : slCells { h := H2 } (.osl B g 0 n 1 none) 1 = some (rs (ints .u8 u), n) := by
      have h1 : rcells { h := H2 } B g = some (rs (ints .u8 u)) := by simp [rcells, gB2]
      unfold slCells
      simp only
      rw [h1]
      simp only
      rw [if_pos ⟨trivial, by rw [rs_len, ints_len]; omega⟩, List.drop_zero, List.take_of_length_le (by rw [rs_len, ints_len]; omega)]
    unfold appendA
    rw [hcl]
    simp only
    rw [if_neg (by omega), if_pos ⟨by omega, rfl, by simp [roomOk]; omega⟩]
    simp [hH3, rs]
  have l3 : H3.length = H2.length + 1 := by rw [hH3]; simp
  obtain ⟨c5, k5⟩ := lawDivision_spec hs hfew { h := H2 }
  have g3' : H3[H2.length]? = some (.cells (rs (ints .u8 u)) ty_uint8 0) := by rw [hH3]; simp
  obtain ⟨c6, k6⟩ := Count_spec (copyS d) hb hru (u := u) (v := .osl H2.length 0 0 n 1 none) (by omega) { h := H3 } fun H' h' => by
    rw [← hul]
    exact Arr.osl (T := ty_uint8) (g := 0) (by rw [take_get h' (by simp only; omega)]; exact g3')
  obtain ⟨N, hN⟩ : ∃ N, N = numsL d u := ⟨_, rfl⟩
  obtain ⟨O, hO⟩ : ∃ O, O = outcomeI d N := ⟨_, rfl⟩
  rw [rt_cnt ho hum, show cntN d u = N by unfold cntN; rw [rt_cnt ho hum, if_pos rfl, hN], show cntO d u = O by unfold cntO; rw [rt_cnt ho hum, if_pos rfl, hO, hN], show divC d (listV d.a0) (listV d.a1) (listV d.n0) (listV d.n1) (pairV d.pairs) (pairV d.proxies) = copyC d from rfl] at k6
  simp only [nmR] at k6
  obtain ⟨X, hX⟩ : ∃ X, X = copyC d := ⟨_, rfl⟩
  rw [← hX] at k5 k6
  obtain ⟨H4, hH4⟩ : ∃ H4, H4 = H3 ++ [.cells [i64 N.1, i64 N.2] ty_tally_Numbers 0] := ⟨_, rfl⟩
  have l4 : H4.length = H3.length + 1 := by rw [hH4]; simp
  have g3 : H3[0]? = some (.cells (rs (divC d a0 a1 n0 n1 p q)) ty_ref07_Division 0) := by rw [hH3, List.getElem?_append_left (by omega)]; exact g2
  have g4 : H4[0]? = some (.cells (rs (divC d a0 a1 n0 n1 p q)) ty_ref07_Division 0) := by rw [hH4, List.getElem?_append_left (by omega)]; exact g3
  have g4n : H4[H3.length]? = some (.cells [i64 N.1, i64 N.2] ty_tally_Numbers 0) := by rw [hH4]; simp
  have g4B : H4[B]? = some (.cells (rs (ints .u8 u)) ty_uint8 g) := by rw [hH4, List.getElem?_append_left (by omega), hH3, List.getElem?_append_left (by omega)]; exact gB2
  have g4B' : H4[B']? = some (.cells (rs (ints .u8 v)) ty_uint8 g') := by rw [hH4, List.getElem?_append_left (by omega), hH3, List.getElem?_append_left (by omega)]; exact gB'
  have hset3 : ∀ b b' : Blk, (H3 ++ [b]).set H3.length b' = H3 ++ [b'] := fun b b' => by simp
  have hget3 : ∀ b : Blk, (H3 ++ [b])[H3.length]? = some b := fun b => by simp
  obtain ⟨nb1, nb2⟩ := nums_le hr u
  have nb3 := nums_tot hr u
  rw [← hN] at nb1 nb2 nb3
  have q1 : (N.1 < 0) = False := eq_false (by omega)
  have q2 : (N.2 < 0) = False := eq_false (by omega)
  have q3 : (d.n - 2 * (d.pairs.length : Int) < N.1 + N.2) = False := eq_false (by omega)
  have w1 : IntKind.wrap .i64 (N.1 + N.2) = N.1 + N.2 := by rw [w64] <;> omega
  have w2' : IntKind.wrap .i64 (2 * (d.pairs.length : Int)) = 2 * (d.pairs.length : Int) := by rw [w64] <;> omega
  have w3 : IntKind.wrap .i64 (d.n - 2 * (d.pairs.length : Int)) = d.n - 2 * (d.pairs.length : Int) := by rw [w64] <;> omega
  have hap : ∀ k, apartL (List.range' 1 k) [0] = true := fun k => by
    unfold apartL
    rw [List.all_eq_true]
    intro y hy
    have := (List.mem_range'_1.1 hy).1
    simp; omega
  have hplen := hs.p.len
  obtain ⟨c7, k7⟩ := wakes_spec { h := H4, wr := [H3.length] }
  by_cases hpe : d.pairs.length = 0
  · have z1 : ((d.pairs.length : Int) = 0) = True := eq_true (by omega)
    have z2 : (d.pairs = []) = True := eq_true (List.length_eq_zero_iff.1 hpe)
    rw [← hD] at k1 k3 k4 k5 hH0 g0 g1 g2 g3 g4 hd11 ⊢
    have hDt : List.take 11 (rs D) = rs D := List.take_of_length_le (by rw [rs_len]; omega)
    have hD0 : List.take 1 (rs D) = [i64 d.n] := by rw [hD]; rfl
    have hD5 : List.take 1 (List.drop 5 (rs D)) = [.r p] := by rw [hD]; rfl
    refine CallR.eval (m1 := { h := H4, wr := [H3.length] }) rfl rfl prog_law07_TallyPairs rfl ⟨c1 + c2 + c3 + c4 + c5 + c6 + c7, fun k hk => ?_⟩ (by simp) (by simp)
    simp [a_law07_TallyPairs, dn_drawF, denF, denFI, stepF, slotFree, slotOf, foot, avIdx, wrAll, pairsOk, apartL_nil, hap, rs_len, hd11, hDt, hD0, hD5, ← hH0, l0, g0, gq g0, g1, gq g1, g2, gq g2, g3, gq g3, g4, gq g4, g4n, gq g4n, k1 k (by omega), k3 k (by omega), k4 k (by omega), k5 k (by omega), k6 k (by omega), k7 k (by omega), allR, AV.toR, mkAgg, allR_rs, repl, hA, hset3, hget3, ← hH4, q1, q2, q3, w1, w2', w3, hplen, z1, z2]
  -- one of the pairs
  have hpp : 0 < d.pairs.length := by omega
  have z1 : ((d.pairs.length : Int) = 0) = False := eq_false (by omega)
  have z2 : (d.pairs = []) = False := eq_false fun h => hpe (by rw [h]; rfl)
  obtain ⟨i, hi⟩ : ∃ i, i = x.toNat % d.pairs.length := ⟨_, rfl⟩
  have hil : i < d.pairs.length := by rw [hi]; exact Nat.mod_lt _ hpp
  have wx : IntKind.wrap .i64 x = x := by rw [w64] <;> omega
  have wm : x.tmod (d.pairs.length : Int) = (i : Int) := by
    rw [Int.tmod_eq_emod_of_nonneg (by omega), hi, Int.natCast_emod]
    congr 1; omega
  have hpo : pairsOk' d.n [] d.pairs = true := by
    have h := hr
    unfold rightB at h
    simp only [Bool.and_eq_true] at h
    exact h.1.2
  have hpm := pairsOk_mem d.pairs [] hpo d.pairs[i] (List.getElem_mem hil)
  obtain ⟨a, b, hab⟩ : ∃ a b : Nat, d.pairs[i] = ((a : Int), (b : Int)) ∧ a < n ∧ b < n := by
    unfold pairBad memB at hpm
    simp at hpm
    exact ⟨d.pairs[i].1.toNat, d.pairs[i].2.toNat, Prod.ext (by simp only; omega) (by simp only; omega), by omega, by omega⟩
  obtain ⟨hab, han, hbn⟩ := hab
  have hat : atOf 2 (.r p) (i : Int) = some (.r (.ptr ((prs d.pairs).drop (i * 2)))) := hs.p.at hil
  have hld : ∀ m, loadV m (.r (.ptr ((prs d.pairs).drop (i * 2)))) 2 true = some (.r (.agg [.lit (.int .i64 a), .lit (.int .i64 b)])) := fun m => by
    rw [load_prs hil, hab]
  obtain ⟨pp, hppv⟩ : ∃ pp, pp = (prs d.pairs).drop (i * 2) := ⟨_, rfl⟩
  rw [← hppv] at hat hld
  obtain ⟨Hd, hHd⟩ : ∃ Hd, Hd = H4 ++ [Blk.dead] := ⟨_, rfl⟩
  obtain ⟨H5, hH5⟩ : ∃ H5, H5 = H4 ++ [.cells [i64 a, i64 b] ty_ref07_Pair 1] := ⟨_, rfl⟩
  have ld : Hd.length = H4.length + 1 := by rw [hHd]; simp
  have l5 : H5.length = H4.length + 1 := by rw [hH5]; simp
  have gd : Hd[0]? = some (.cells (rs (divC d a0 a1 n0 n1 p q)) ty_ref07_Division 0) := by rw [hHd, List.getElem?_append_left (by omega)]; exact g4
  have gdn : Hd[H4.length]? = some .dead := by rw [hHd]; simp
  have hsetd : ∀ b, Hd.set H4.length b = H4 ++ [b] := fun b => by rw [hHd]; simp
  have hset4 : ∀ b b' : Blk, (H4 ++ [b]).set H4.length b' = H4 ++ [b'] := fun b b' => by simp
  have hget4 : ∀ b : Blk, (H4 ++ [b])[H4.length]? = some b := fun b => by simp
  have g5 : H5[0]? = some (.cells (rs (divC d a0 a1 n0 n1 p q)) ty_ref07_Division 0) := by rw [hH5, List.getElem?_append_left (by omega)]; exact g4
  have g5p : H5[H4.length]? = some (.cells [i64 a, i64 b] ty_ref07_Pair 1) := by rw [hH5]; simp
  have g5B : H5[B]? = some (.cells (rs (ints .u8 u)) ty_uint8 g) := by rw [hH5, List.getElem?_append_left (by omega)]; exact g4B
  have g5B' : H5[B']? = some (.cells (rs (ints .u8 v)) ty_uint8 g') := by rw [hH5, List.getElem?_append_left (by omega)]; exact g4B'
  have g5n : H5[H3.length]? = some (.cells [i64 N.1, i64 N.2] ty_tally_Numbers 0) := by rw [hH5, List.getElem?_append_left (by omega)]; exact g4n
  -- the votes put in
  have hatu : ∀ j : Nat, j < n → atOf 1 (.osl B g 0 n 1 none) (j : Int) = some (.own B g j) := fun j hj => by
    simp only [atOf]; rw [if_pos ⟨by omega, by omega, trivial⟩]; simp
  have hatv : ∀ j : Nat, j < n → atOf 1 (.osl B' g' 0 n 1 none) (j : Int) = some (.own B' g' j) := fun j hj => by
    simp only [atOf]; rw [if_pos ⟨by omega, by omega, trivial⟩]; simp
  obtain ⟨va, hva⟩ : ∃ va, va = v.getD a 0 := ⟨_, rfl⟩
  obtain ⟨vb, hvb⟩ : ∃ vb, vb = v.getD b 0 := ⟨_, rfl⟩
  have tv1 : List.take 1 (List.drop a (rs (ints .u8 v))) = [u8 va] := by rw [hva]; exact take_one_ints (by omega)
  have tv2 : List.take 1 (List.drop b (rs (ints .u8 v))) = [u8 vb] := by rw [hvb]; exact take_one_ints (by omega)
  have lu8 : (rs (ints .u8 u)).length = n := by rw [rs_len, ints_len, hul]
  have lv8 : (rs (ints .u8 v)).length = n := by rw [rs_len, ints_len, hvl]
  obtain ⟨u1, hu1⟩ : ∃ u1, u1 = u.set a va := ⟨_, rfl⟩
  obtain ⟨u2, hu2⟩ : ∃ u2, u2 = mixL u v a b := ⟨_, rfl⟩
  have pu1 : List.take a (rs (ints .u8 u)) ++ u8 va :: List.drop (a + 1) (rs (ints .u8 u)) = rs (ints .u8 u1) := by rw [hu1]; exact put_ints (by omega) va
  have pu2 : List.take b (rs (ints .u8 u1)) ++ u8 vb :: List.drop (b + 1) (rs (ints .u8 u1)) = rs (ints .u8 u2) := by
    rw [hu2, show mixL u v a b = u1.set b vb by rw [hu1, hva, hvb]; rfl]
    exact put_ints (by rw [hu1]; simp; omega) vb
  have lu18 : (rs (ints .u8 u1)).length = n := by rw [rs_len, ints_len, hu1]; simpa using hul
  have hu2l : u2.length = n := by rw [hu2, mix_len]; exact hul
  have hc2 : cntE d u2 = 0 := by rw [hu2]; exact mix_cnt ho hum hvm (by omega) (by omega)
  have hn2 : numsL d u2 = N := by rw [hu2, hN]; exact mix_nums (by omega) (by omega) (by rw [← hab]; exact List.getElem_mem hil)
  obtain ⟨H6, hH6⟩ : ∃ H6, H6 = H5.set B (.cells (rs (ints .u8 u2)) ty_uint8 g) := ⟨_, rfl⟩
  have l6 : H6.length = H4.length + 1 := by rw [hH6]; simpa using l5
  have hset5 : ∀ c, (H5.set B c)[B]? = some c := fun c => List.getElem?_set_self (by omega)
  have g6 : H6[0]? = some (.cells (rs (divC d a0 a1 n0 n1 p q)) ty_ref07_Division 0) := by rw [hH6, List.getElem?_set_ne (by omega)]; exact g5
  have g6n : H6[H3.length]? = some (.cells [i64 N.1, i64 N.2] ty_tally_Numbers 0) := by rw [hH6, List.getElem?_set_ne (by omega)]; exact g5n
  have g6B : H6[B]? = some (.cells (rs (ints .u8 u2)) ty_uint8 g) := by rw [hH6, List.getElem?_set_self (by omega)]
  obtain ⟨W6, hW6⟩ : ∃ W6, W6 = [B, B, H4.length, H4.length, H3.length] := ⟨_, rfl⟩
  obtain ⟨c8, k8⟩ := lawDivision_spec hs hfew { h := H6, wr := W6 }
  obtain ⟨c9, k9⟩ := Count_spec (copyS d) hb hru (u := u2) (v := .osl B g 0 n 1 none) (by omega) { h := H6, wr := W6 } fun H' h' => by
    rw [← hu2l]
    exact Arr.osl (T := ty_uint8) (g := g) (by rw [take_get h' (by simp only; omega)]; exact g6B)
  rw [hc2, show cntN d u2 = N by unfold cntN; rw [hc2, if_pos rfl, hn2], show cntO d u2 = O by unfold cntO; rw [hc2, if_pos rfl, hn2, hO], show divC d (listV d.a0) (listV d.a1) (listV d.n0) (listV d.n1) (pairV d.pairs) (pairV d.proxies) = copyC d from rfl] at k9
  simp only [nmR] at k9
  rw [← hX] at k8 k9
  obtain ⟨H7, hH7⟩ : ∃ H7, H7 = H6 ++ [.cells [i64 N.1, i64 N.2] ty_tally_Numbers 0] := ⟨_, rfl⟩
  have hset6 : ∀ b b' : Blk, (H6 ++ [b]).set H6.length b' = H6 ++ [b'] := fun b b' => by simp
  have hget6 : ∀ b : Blk, (H6 ++ [b])[H6.length]? = some b := fun b => by simp
  have g7n : H7[H3.length]? = some (.cells [i64 N.1, i64 N.2] ty_tally_Numbers 0) := by rw [hH7, List.getElem?_append_left (by omega)]; exact g6n
  have g7m : H7[H6.length]? = some (.cells [i64 N.1, i64 N.2] ty_tally_Numbers 0) := by rw [hH7]; simp
  obtain ⟨c10, k10⟩ := wakes_spec { h := H7, wr := H6.length :: W6 }
  have hapB : apartL [B] [H4.length] = true := by
    unfold apartL
    simp; omega
  have hap40 : apartL [H4.length] [0] = true := by
    have h40 : (H4.length == 0) = false := by rw [beq_eq_false_iff_ne]; omega
    simp only [apartL, List.all_cons, List.all_nil, List.contains_cons, List.contains_nil, h40]
    rfl
  have hape : ∀ l, apartL l [] = true := fun l => by simp [apartL]
  have ne4B : (H4.length = B) = False := eq_false (by omega)
  have oa : (a + 1 ≤ n) = True := eq_true (by omega)
  have ob : (b + 1 ≤ n) = True := eq_true (by omega)
  rw [← hD] at k1 k3 k4 k5 k8 hH0 g0 g1 g2 g3 g4 gd g5 g6 hd11 ⊢
  have hDt : List.take 11 (rs D) = rs D := List.take_of_length_le (by rw [rs_len]; omega)
  have hD0 : List.take 1 (rs D) = [i64 d.n] := by rw [hD]; rfl
  have hD5 : List.take 1 (List.drop 5 (rs D)) = [.r p] := by rw [hD]; rfl

  refine CallR.eval (m1 := { h := H7, wr := H6.length :: W6 }) rfl rfl prog_law07_TallyPairs rfl ⟨c1 + c2 + c3 + c4 + c5 + c6 + c7 + c8 + c9 + c10, fun k hk => ?_⟩ (by simp) (by simp)
  simp [a_law07_TallyPairs, dn_drawF, sd_slot, denF, denFI, stepF, slotFree, slotOf, foot, avIdx, wrAll, pairsOk, apartL_nil, hap, hapB, hap40, hape, rs_len, hd11, hDt, hD0, hD5, ← hH0, l0, g0, gq g0, g1, gq g1, g2, gq g2, g3, gq g3, g4, gq g4, g4n, gq g4n, k1 k (by omega), k3 k (by omega), k4 k (by omega), k5 k (by omega), k6 k (by omega), k8 k (by omega), k9 k (by omega), k10 k (by omega), allR, AV.toR, mkAgg, allR_rs, repl, hA, hset3, hget3, ← hH4, q1, q2, q3, w1, w2', w3, hplen, z1, z2, wx, wm, hat, hld, ← hHd, gd, gq gd, gdn, gq gdn, hsetd, hset4, hget4, ← hH5, g5, gq g5, g5p, gq g5p, g5B, gq g5B, g5B', gq g5B', ld, l5, hatu a han, hatu b hbn, hatv a han, hatv b hbn, tv1, tv2, lu8, lv8, lu18, pu1, pu2, oa, ob, hset5, ← hH6, ← hW6, g6, gq g6, hset6, hget6, ← hH7, g7n, gq g7n, g7m, gq g7m, rvEqs, rvEq]
end
end Go.AM.T
