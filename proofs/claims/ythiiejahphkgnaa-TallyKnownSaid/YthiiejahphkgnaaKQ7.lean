/- The machine that the proofs walk by, and what the functions compute: part 7 of the common texts. No condition. (Own work.) -/
import Derived.Test.YthiiejahphkgnaaKQ6
set_option linter.unusedVariables false
set_option linter.unusedSimpArgs false
/- What the functions compute (own work). -/
namespace Go.AM.T
open Go Go.AM
attribute [local simp] so_mov so_pick so_alloc so_box so_build so_slit so_load so_store so_nilc so_bin so_beq so_eqs so_eqn so_eqnl so_not so_conv so_s2b so_mkfn so_slcA so_padd so_fld so_idxA so_idxV so_idxT so_look so_mupd so_mkmap so_mksl so_ext so_app so_lenT so_lenM so_min so_max so_cpy so_clr so_mkif so_tass so_lenS so_idxS so_slc
attribute [local simp] dn_skip dn_label dn_ret dn_exit dn_scope dn_keep dn_reg dn_draw0 noSlots denE denEI stepE  sd_mov sd_pick sd_build sd_load sd_store sd_nilc sd_bin sd_beq sd_eqs sd_eqn sd_eqnl sd_not sd_conv sd_s2b sd_mkfn sd_slc sd_slcA sd_padd sd_fld sd_idxS sd_idxA sd_idxV sd_idxT sd_look sd_mupd sd_ext sd_app sd_lenS sd_lenT sd_lenM sd_min sd_max sd_mkif sd_tass sd_call sd_slit dn_seq dn_cond dn_block dn_loop kn_call denIs denI denOp wants ev eget putD binL enumFrom AV.bool? AV.int? ekeep evs evp runV fin runDefs resAll resOf tupOf unit AV.cells okV ok1 Value.oneCell' fill setN rcells rs_nil rs_cons load_own load_cons mkAgg_rs storeN jmpOut
attribute [local simp] dvL dv1t dvAt mkAgg2 dv0 dv1 dv2 dv3 dv4 dv5 dv6 dv7 dv8 dv9 dv10 dvA dvN dvAll C_fz fzr
/-- What members answer, with the outcome, for some truths. -/
def ansO (d : Div) (ms : List Int) (ts : List (List Int)) : List (List Int × Int) := ts.map fun t => (ansF t ms (List.replicate 40 0), outcomeI d (numsL d t))
/-- Are the votes of some members enough? -/
def decB (d : Div) (ms : List Int) : Bool := decF [] (ansO d ms (truthsOf d))
theorem toldsC_at (d : Div) : ∀ (ts : List (List Int)) (i : Nat) (hi : i < ts.length), (∀ t ∈ ts, t.length = 40) → List.take 41 (List.drop (i * 41) (toldsC d ts)) = toldC d ts[i] ∧ 41 ≤ (List.drop (i * 41) (toldsC d ts)).length
  | t :: ts, 0, _, h => by
    have h1 := toldC_len d (h t (by simp))
    unfold toldsC
    rw [List.flatMap_cons, Nat.zero_mul, List.drop_zero]
    refine ⟨?_, by simp; omega⟩
    rw [List.take_append_of_le_length (by omega), List.take_of_length_le (by omega)]; rfl
  | t :: ts, i + 1, hi, h => by
    have h1 := toldC_len d (h t (by simp))
    have ih := toldsC_at d ts i (by simpa using hi) fun x hx => h x (by simp [hx])
    unfold toldsC at ih ⊢
    rw [List.flatMap_cons, show (i + 1) * 41 = (toldC d t).length + i * 41 by omega, List.drop_append]
    have e1 : (toldC d t).length + i * 41 - (toldC d t).length = i * 41 := by omega
    rw [List.drop_eq_nil_of_le (by omega), List.nil_append, e1]
    exact ih
section
variable {d : Div} {ms : List Int} {v : AV}
theorem dec_outer (hms : ∀ x ∈ ms, 0 ≤ x ∧ x < 40) (hn : ms.length < 2 ^ 62) {ts : List (List Int)} (hts : ∀ t ∈ ts, t.length = 40) (hcnt : ts.length < 2 ^ 62) {M0 : List Blk} (hA : ∀ H' : List Blk, H'.take M0.length = M0 → Arr .i64 H' v ms) (hAl : lenOf v = some ms.length) (cap : Option Nat) :
    ∀ (k i : Nat) (es : List (List Int × Int)) (s : St), i + k = ts.length → (∀ e ∈ es, e.1.length = 40) → ekeep [1, 5, 6, 15, 16, 17] s.env = [(1, v), (5, .omap M0.length), (6, bo true), (15, .r (.sl (toldsC d ts) ts.length cap)), (16, i64 ts.length), (17, i64 i)] →
      s.m.h.take (M0.length + 1) = M0 ++ [.map (mapC es)] → (∀ x ∈ s.m.wr, M0.length ≤ x) → s.defs = [] →
      ∃ s', Loop C [1, 5, 6, 15, 16, 17] l_tally_decide_1 s (.exit 0) s' ∧ eget s'.env 6 = bo (decF es (ansO d ms (ts.drop i))) ∧ s'.m.h.take M0.length = M0 ∧ (∀ x ∈ s'.m.wr, M0.length ≤ x) ∧ s'.defs = [] := by
  intro k
  induction k with
  | zero =>
    intro i es s hi hes he hm hw hd
    have e0 : ((i : Int) < (ts.length : Int)) = False := eq_false (by omega)
    have : ts.drop i = [] := List.drop_eq_nil_of_le (by omega)
    rw [this]
    refine ⟨_, .stop (.of fun K => by rw [he]; simp [l_tally_decide_1, e0]; rfl) (by simp), by simp [ansO, decF], ?_, by simpa using hw, by simp [hd]⟩
    have := congrArg (List.take M0.length) hm
    rw [List.take_take, Nat.min_eq_left (by omega), List.take_left'] at this
    · simpa using this
    · rfl
  | succ k ih =>
    intro i es s hi hes he hm hw hd
    obtain ⟨M, hMM⟩ : ∃ M, M = s.m := ⟨_, rfl⟩
    obtain ⟨H, W⟩ := M
    rw [← hMM] at hm hw
    simp only at hm hw
    have e0 : ((i : Int) < (ts.length : Int)) = True := eq_true (by omega)
    have w1 : IntKind.wrap .i64 ((i : Int) + 1) = i + 1 := by rw [w64] <;> omega
    have hil : i < ts.length := by omega
    obtain ⟨t, ht⟩ : ∃ t, t = ts[i] := ⟨_, rfl⟩
    have ht40 : t.length = 40 := by rw [ht]; exact hts _ (List.getElem_mem hil)
    have hdrop : ts.drop i = t :: ts.drop (i + 1) := by rw [ht]; exact List.drop_eq_getElem_cons hil
    obtain ⟨hta, htl⟩ := toldsC_at d ts i hil hts
    rw [← ht] at hta
    have hC := toldC_len d ht40
    obtain ⟨o, ho⟩ : ∃ o, o = outcomeI d (numsL d t) := ⟨_, rfl⟩
    have hCs : toldC d t = ints .u8 (t ++ [o]) := by rw [ho]; rfl
    have hHl : M0.length + 1 ≤ H.length := by
      have := congrArg List.length hm
      rw [List.length_take] at this
      simp at this; omega
    have hat : atOf 41 (.r (.sl (toldsC d ts) ts.length cap)) (i : Int) = some (.r (.ptr (List.drop (i * 41) (toldsC d ts)))) := by
      simp only [atOf]; rw [if_pos ⟨by omega, by omega⟩]; simp
    obtain ⟨H2, hH2⟩ : ∃ H2, H2 = H ++ [.cells (rs (toldC d t)) ty_tally_told 0, .cells (rs z_tally_truth) ty_tally_truth 0] := ⟨_, rfl⟩
    have hl2 : H2.length = H.length + 2 := by simp [hH2]
    have hM : H.take M0.length = M0 := by
      have := congrArg (List.take M0.length) hm
      rw [List.take_take, Nat.min_eq_left (by omega), List.take_left'] at this
      · exact this
      · rfl
    have hM2 : H2.take M0.length = M0 := by rw [hH2, List.take_append_of_le_length (by omega)]; exact hM
    have hm2 : H2.take (M0.length + 1) = M0 ++ [.map (mapC es)] := by rw [hH2, List.take_append_of_le_length (by omega)]; exact hm
    have g8 : H2[H.length]? = some (.cells (rs (ints .u8 (t ++ [o]))) ty_tally_told 0) := by rw [hH2, hCs]; simp
    have g9 : H2[H.length + 1]? = some (.cells (rs z_tally_truth) ty_tally_truth 0) := by simp [hH2]
    obtain ⟨s2, l2, m2, w2, d2, e2⟩ := dec_inner (T8 := H.length) (T9 := H.length + 1) (o := o) hms hn ht40 (H := H2) hA g8 (by omega) (by omega) hM2 (by omega) (mp := .omap M0.length) (sb := bo true) (tv := .r (.sl (toldsC d ts) ts.length cap)) (tn := i64 ts.length) (ti := i64 i)
      ms.length 0 (List.replicate 40 0) { s with env := [(23, i64 0), (22, i64 ms.length), (21, v), (9, .own (H.length + 1) 0 0), (1, v), (5, .omap M0.length), (6, bo true), (8, .own H.length 0 0), (15, .r (.sl (toldsC d ts) ts.length cap)), (16, i64 ts.length), (17, i64 i)], m := { h := H2, wr := H.length :: W } } (by omega) (by simp) (by simp) (by rw [truth_zero] at g9; exact (set_same g9).symm) (by
        intro z hz
        rcases List.mem_cons.1 hz with rfl | hz
        · omega
        · exact hw z hz) hd
    obtain ⟨c2, k2⟩ := l2.get
    rw [List.drop_zero] at m2
    obtain ⟨A, hAA⟩ : ∃ A, A = ansF t ms (List.replicate 40 0) := ⟨_, rfl⟩
    have hA40 : A.length = 40 := by rw [hAA, ansF_len]; simp
    rw [← hAA] at m2
    obtain ⟨H3, hH3⟩ : ∃ H3, H3 = H2.set (H.length + 1) (.cells (rs (ints .u8 A)) ty_tally_truth 0) := ⟨_, rfl⟩
    rw [← hH3] at m2
    have hm3 : H3.take (M0.length + 1) = M0 ++ [.map (mapC es)] := by rw [hH3, List.take_set_of_le (by omega)]; exact hm2
    have gM : H3[M0.length]? = some (.map (mapC es)) := by rw [take_get hm3 (by omega)]; simp
    have g38 : H3[H.length]? = some (.cells (rs (ints .u8 (t ++ [o]))) ty_tally_told 0) := by rw [hH3, List.getElem?_set_ne (by omega)]; exact g8
    have g39 : H3[H.length + 1]? = some (.cells (rs (ints .u8 A)) ty_tally_truth 0) := by rw [hH3, List.getElem?_set_self (by omega)]
    have hfind := findK_lk hA40 es 0 hes
    have e2' : eget s2.env 1 = v ∧ eget s2.env 5 = .omap M0.length ∧ eget s2.env 6 = bo true ∧ eget s2.env 8 = .own H.length 0 0 ∧ eget s2.env 9 = .own (H.length + 1) 0 0 ∧ eget s2.env 15 = .r (.sl (toldsC d ts) ts.length cap) ∧ eget s2.env 16 = i64 ts.length ∧ eget s2.env 17 = i64 i := by simpa [ekeep] using e2
    obtain ⟨f1, f5, f6, f8, f9, f15, f16, f17⟩ := e2'
    have hl8 : (rs (ints .u8 (t ++ [o]))).length = 41 := by rw [rs_len, ints_len]; simp [ht40]
    have hl9 : (rs (ints .u8 A)).length = 40 := by rw [rs_len, ints_len, hA40]
    have t9 : List.take 40 (rs (ints .u8 A)) = rs (ints .u8 A) := List.take_of_length_le (by omega)
    have t8 : List.take 1 (List.drop 40 (rs (ints .u8 (t ++ [o])))) = [u8 o] := by
      rw [take_one_ints (by simp; omega)]; simp [List.getElem?_append_right, ht40]
    have hans : ansO d ms (ts.drop i) = (A, o) :: ansO d ms (ts.drop (i + 1)) := by rw [hdrop, hAA, ho]; rfl
    obtain ⟨TC, hTC⟩ : ∃ TC, TC = toldsC d ts := ⟨_, rfl⟩
    obtain ⟨I8, hI8⟩ : ∃ I, I = ints .u8 (t ++ [o]) := ⟨_, rfl⟩
    obtain ⟨I9, hI9⟩ : ∃ I, I = ints .u8 A := ⟨_, rfl⟩
    obtain ⟨w, hw2⟩ : ∃ w, w = s2.m.wr := ⟨_, rfl⟩
    have hsm : s2.m = { h := H3, wr := w } := by rw [← m2, hw2]
    rw [hCs] at hta hH2 hC
    rw [← hTC] at hta htl hat f15 k2
    rw [← hI8] at hta hH2 hC g38 hl8 t8
    rw [← hI9] at g39 hl9 t9 hfind
    rw [← hw2] at w2
    have hZl : (rs z_tally_told).length = 41 := by rw [rs_len]; rfl
    have hZd : List.drop 41 (rs z_tally_told) = [] := List.drop_eq_nil_of_le (by omega)
    have hset : ∀ b, (H ++ [Blk.cells (rs z_tally_told) ty_tally_told 0]).set H.length b = H ++ [b] := fun b => by simp
    have hget : (H ++ [Blk.cells (rs z_tally_told) ty_tally_told 0])[H.length]? = some (Blk.cells (rs z_tally_told) ty_tally_told 0) := by simp
    have hH2' : (H ++ [Blk.cells (rs I8) ty_tally_told 0]) ++ [.cells (rs z_tally_truth) ty_tally_truth 0] = H2 := by rw [hH2]; simp
    obtain ⟨ZT, hZT⟩ : ∃ ZT, ZT = rs z_tally_told := ⟨_, rfl⟩
    rw [← hZT] at hZl hZd hset hget
    rw [hans]
    have hwM : ∀ x ∈ w, M0.length ≤ x := w2
    have htl' : (41 ≤ TC.length - i * 41) = True := eq_true (by rw [List.length_drop] at htl; exact htl)
    cases hlk : lkA A es 0 with
    | none =>
      rw [hlk] at hfind
      have hdec : decF es ((A, o) :: ansO d ms (ts.drop (i + 1))) = decF (es ++ [(A, o)]) (ansO d ms (ts.drop (i + 1))) := by
        conv => lhs; unfold decF
        rw [hlk]
      have hmap : mapC es ++ [(.agg I9, u8 o)] = mapC (es ++ [(A, o)]) := by rw [hI9]; unfold mapC; simp
      obtain ⟨H4, hH4⟩ : ∃ H4, H4 = H3.set M0.length (.map (mapC (es ++ [(A, o)]))) := ⟨_, rfl⟩
      obtain ⟨s', h1, h2, h3, h4, h5⟩ := ih (i + 1) (es ++ [(A, o)]) { s2 with env := [(1, v), (5, .omap M0.length), (6, bo true), (15, .r (.sl TC ts.length cap)), (16, i64 ts.length), (17, i64 (i + 1 : Nat))], m := { h := H4, wr := M0.length :: w } } (by omega) (by
        intro x hx
        rcases List.mem_append.1 hx with hx | hx
        · exact hes x hx
        · simp at hx; subst hx; exact hA40) (by rw [hTC]; simp) (by
        show H4.take (M0.length + 1) = _
        rw [hH4, List.take_set, hm3]; simp) (by
        intro x hx
        rcases List.mem_cons.1 hx with rfl | hx
        · exact Nat.le_refl _
        · exact hwM x hx) d2
      rw [hdec]
      refine ⟨s', .more (.ofN ⟨c2, fun n hn' => ?_⟩) h1, h2, h3, h4, h5⟩
      have k2 := k2 n hn'
      rw [he, ← hTC]
      simp [l_tally_decide_1, ← hMM, e0, w1, hat, load_agg, htl', hta, hC, ← hZT, hZl, hZd, rs_len, ← hH2, hAl, k2, hsm, f1, f5, f6, f8, f9, f15, f16, f17, gM, g38, g39, hl8, hl9, t9, t8, hfind, hmap, ← hH4]
    | some x =>
      obtain ⟨j, q⟩ := x
      rw [hlk] at hfind
      by_cases hq : q = o
      · subst hq
        have hdec : decF es ((A, q) :: ansO d ms (ts.drop (i + 1))) = decF es (ansO d ms (ts.drop (i + 1))) := by
          conv => lhs; unfold decF
          rw [hlk]; simp
        have hmap : (mapC es).set j (.agg I9, u8 q) = mapC es := by rw [hI9]; exact mapC_set hlk
        have hsame : H3.set M0.length (.map (mapC es)) = H3 := set_same gM
        obtain ⟨s', h1, h2, h3, h4, h5⟩ := ih (i + 1) es { s2 with env := [(1, v), (5, .omap M0.length), (6, bo true), (15, .r (.sl TC ts.length cap)), (16, i64 ts.length), (17, i64 (i + 1 : Nat))], m := { h := H3, wr := M0.length :: w } } (by omega) hes (by rw [hTC]; simp) hm3 (by
          intro x hx
          rcases List.mem_cons.1 hx with rfl | hx
          · exact Nat.le_refl _
          · exact hwM x hx) d2
        rw [hdec]
        refine ⟨s', .more (.ofN ⟨c2, fun n hn' => ?_⟩) h1, h2, h3, h4, h5⟩
        have k2 := k2 n hn'
        rw [he, ← hTC]
        simp [l_tally_decide_1, ← hMM, e0, w1, hat, load_agg, htl', hta, hC, ← hZT, hZl, hZd, rs_len, ← hH2, hAl, k2, hsm, f1, f5, f6, f8, f9, f15, f16, f17, gM, g38, g39, hl8, hl9, t9, t8, hfind, hmap, hsame]
      · have hdec : decF es ((A, o) :: ansO d ms (ts.drop (i + 1))) = false := by
          unfold decF
          rw [hlk]; simp [hq]
        have hq' : (q == o) = false := by simpa using hq
        rw [hdec]
        have hMm : H3.take M0.length = M0 := by
          have := congrArg (List.take M0.length) hm3
          rw [List.take_take, Nat.min_eq_left (by omega), List.take_left'] at this
          · exact this
          · rfl
        have hst : ∃ s', Den C l_tally_decide_1 { s with env := ekeep [1, 5, 6, 15, 16, 17] s.env } (.exit 0) s' ∧ eget s'.env 6 = bo false ∧ s'.m = { h := H3, wr := w } ∧ s'.defs = [] := by
          exact ⟨_, .ofN ⟨c2, fun n hn' => by
            have k2 := k2 n hn'
            rw [he, ← hTC]
            simp [l_tally_decide_1, ← hMM, e0, w1, hat, load_agg, htl', hta, hC, ← hZT, hZl, hZd, rs_len, ← hH2, hAl, k2, hsm, f1, f5, f6, f8, f9, f15, f16, f17, gM, g38, g39, hl8, hl9, t9, t8, hfind, hq', hq]
            rfl⟩, by simp, by simp, by simp [d2]⟩
        obtain ⟨s', h1, h2, h3, h4⟩ := hst
        exact ⟨s', .stop h1 (by simp), h2, by rw [h3]; exact hMm, by rw [h3]; exact hwM, h4⟩
end
end Go.AM.T
/- What the functions compute (own work). -/
namespace Go.AM.T
open Go Go.AM
attribute [local simp] so_mov so_pick so_alloc so_box so_build so_slit so_load so_store so_nilc so_bin so_beq so_eqs so_eqn so_eqnl so_not so_conv so_s2b so_mkfn so_slcA so_padd so_fld so_idxA so_idxV so_idxT so_look so_mupd so_mkmap so_mksl so_ext so_app so_lenT so_lenM so_min so_max so_cpy so_clr so_mkif so_tass so_lenS so_idxS so_slc
attribute [local simp] dn_skip dn_label dn_ret dn_exit dn_scope dn_keep dn_reg dn_draw0 noSlots denE denEI stepE  sd_mov sd_pick sd_build sd_load sd_store sd_nilc sd_bin sd_beq sd_eqs sd_eqn sd_eqnl sd_not sd_conv sd_s2b sd_mkfn sd_slc sd_slcA sd_padd sd_fld sd_idxS sd_idxA sd_idxV sd_idxT sd_look sd_mupd sd_ext sd_app sd_lenS sd_lenT sd_lenM sd_min sd_max sd_mkif sd_tass sd_call sd_slit dn_seq dn_cond dn_block dn_loop kn_call denIs denI denOp wants ev eget putD binL enumFrom AV.bool? AV.int? ekeep evs evp runV fin runDefs resAll resOf tupOf unit AV.cells okV ok1 Value.oneCell' fill setN rcells rs_nil rs_cons load_own load_cons mkAgg_rs storeN jmpOut
attribute [local simp] dvL dv1t dvAt mkAgg2 dv0 dv1 dv2 dv3 dv4 dv5 dv6 dv7 dv8 dv9 dv10 dvA dvN dvAll C_fz fzr
section
variable {d : Div} {ms : List Int} {v : AV}
theorem decide_spec (hms : ∀ x ∈ ms, 0 ≤ x ∧ x < 40) (hn : ms.length < 2 ^ 62) (hd40 : d.n ≤ 40) (e : openI d = 0) (m : Mem) (hA : ∀ H' : List Blk, H'.take m.h.length = m.h → Arr .i64 H' v ms) : CallR C (fnv fn_tally_decide) [.r (allV d), v] m (.ret (bo (decB d ms)) m) := by
  have hcnt := truthsOf_count e
  have hts := truthsOf_len hd40
  obtain ⟨s, l1, h2, h3, h4, h5⟩ := dec_outer (d := d) hms hn hts (by omega) (M0 := m.h) hA (hA m.h (by simp)).len none (truthsOf d).length 0 [] { env := [(17, i64 0), (16, i64 (truthsOf d).length), (15, .r (allV d)), (6, bo true), (0, .r (allV d)), (1, v), (5, .omap m.h.length)], m := { h := m.h ++ [.map []] } } (by omega) (by simp) (by simp [allV]) (by rw [List.take_of_length_le (by simp)]; rfl) (by simp) rfl
  obtain ⟨c1, k1⟩ := l1.get
  rw [List.drop_zero, show decF [] (ansO d ms (truthsOf d)) = decB d ms from rfl] at h2
  have hl : lenOf (.r (allV d)) = some (truthsOf d).length := rfl
  obtain ⟨V, hV⟩ : ∃ V, V = allV d := ⟨_, rfl⟩
  rw [← hV] at k1 hl ⊢
  exact CallR.eval (m1 := s.m) rfl rfl prog_tally_decide rfl ⟨c1, fun k hk => by simp [a_tally_decide, hl, k1 k hk, h2, h5]⟩ h3 h4
/-- A copy of a list of numbers. -/
theorem CloneI_spec {l : List Int} {v : AV} {m : Mem} (hl : l.length < 900000) (hv : v = .r .nil ∧ l = [] ∨ (∃ B g T cap, v = .osl B g 0 l.length 1 cap ∧ m.h[B]? = some (.cells (rs (ints .i64 l)) T g) ∧ 0 < l.length)) :
    CallR C (fnv fn_slices_Clone_Sint_int) [v] m (.ret (.r (slI l)) m) := by
  rcases hv with ⟨rfl, rfl⟩ | ⟨B, g, T, cap, rfl, hB, hpos⟩
  · exact CallR.eval0 rfl rfl prog_slices_Clone_Sint_int rfl ⟨0, fun k _ => by simp [a_slices_Clone_Sint_int, slI, gsV]⟩
  · have hsl : ∀ W, slCells { h := m.h, wr := W } (.osl B g 0 l.length 1 cap) 1 = some (rs (ints .i64 l), l.length) := fun W => by
      simp only [slCells, rcells, hB, if_true]
      rw [if_pos ⟨trivial, by rw [rs_len, ints_len]; omega⟩, List.drop_zero, List.take_of_length_le (by rw [rs_len, ints_len]; omega)]
    have happ : ∀ W, appendA { h := m.h, wr := W } ty_int 1 8 (.r (.sl [] 0 (some 0))) (.osl B g 0 l.length 1 cap) = some (.osl m.h.length 0 0 l.length 1 none, { h := m.h ++ [.cells (rs (ints .i64 l)) ty_int 0], wr := W }) := fun W => by
      unfold appendA
      rw [hsl]
      simp only
      rw [if_neg (by omega), if_pos ⟨by omega, rfl, by simp [roomOk]; omega⟩]
      simp [rs]
    have hz : ∀ W, fz { h := m.h ++ [.cells (rs (ints .i64 l)) ty_int 0], wr := W } m.h.length 1000000 (.osl m.h.length 0 0 l.length 1 none) = some (.r (.sl (ints .i64 l) l.length none)) := fun W => fz_osl (t := ty_int) (g := 0) (by simp) (Nat.le_refl _) (by rw [ints_len]; omega) (by rw [ints_len]; omega)
    have hs : slI l = .sl (ints .i64 l) l.length none := by unfold slI gsV; rw [if_neg (by omega)]
    obtain ⟨I, hI⟩ : ∃ I, I = ints .i64 l := ⟨_, rfl⟩
    obtain ⟨n, hn⟩ : ∃ n, n = l.length := ⟨_, rfl⟩
    rw [hs]
    rw [← hI] at happ hz ⊢
    rw [← hn] at happ hz ⊢
    exact CallR.eval (m1 := { h := m.h ++ [.cells (rs I) ty_int 0], wr := [] }) rfl rfl prog_slices_Clone_Sint_int rfl ⟨0, fun k _ => by simp [a_slices_Clone_Sint_int, allR, repl, happ, hz]⟩ (by simp) (by simp)
/-- The function that tries members. -/
def chV (F T D Ch : Nat) : AV := .fn fn_tally_Ask_1 [] [.own F 0 0, .own T 1 0, .own D 1 0, .own Ch 0 0]
/-- A list of members that a heap has. -/
def Now (H : List Blk) (v : AV) (l : List Int) : Prop := v = .r .nil ∧ l = [] ∨ (∃ B g T cap, v = .osl B g 0 l.length 1 cap ∧ H[B]? = some (.cells (rs (ints .i64 l)) T g) ∧ 0 < l.length)
theorem Now.arr {H : List Blk} {v : AV} {l : List Int} (h : Now H v l) : Arr .i64 H v l := by
  rcases h with ⟨rfl, rfl⟩ | ⟨B, g, T, cap, rfl, hB, _⟩
  · exact Arr.ofSl Sl.nil
  · exact Arr.osl hB
theorem Now.keep {H H' : List Blk} {v : AV} {l : List Int} (h : Now H v l) (hk : ∀ (j : Nat) (T : TypeId) (g : Nat), H[j]? = some (Blk.cells (rs (ints .i64 l)) T g) → H'[j]? = some (Blk.cells (rs (ints .i64 l)) T g)) : Now H' v l := by
  rcases h with h | ⟨B, g, T, cap, h1, hB, h2⟩
  · exact .inl h
  · exact .inr ⟨B, g, T, cap, h1, hk _ _ _ hB, h2⟩
theorem choose_leaf {F T D Ch : Nat} {l : List Int} {x : RV} (hl : ∀ y ∈ l, 0 ≤ y ∧ y < 40) (hlen : l.length < 900000) (hd40 : d.n ≤ 40) (e : openI d = 0) {H : List Blk} (hF : H[F]? = some (.cells [.r x] ty_Sint 0)) (hT : H[T]? = some (.cells [.r (allV d)] ty_Stally_told 1)) (hFT : F ≠ T)
    (hnv : Now H v l) (hvF : ∀ j ∈ avIdx v, j ≠ F) (from_ : Int) (W : List Nat) :
    ∃ W', CallR C (chV F T D Ch) [v, i64 from_, i64 0] { h := H, wr := W } (.ret (bo (decB d l)) { h := H.set F (.cells [.r (slI l)] ty_Sint 0), wr := W' }) ∧ ∀ y ∈ W', y ∈ W ∨ y = F := by
  have hFl := getElem?_lt hF
  obtain ⟨c1, k1⟩ := CloneI_spec (m := { h := H }) hlen hnv
  obtain ⟨H2, hH2⟩ : ∃ H2, H2 = H.set F (.cells [.r (slI l)] ty_Sint 0) := ⟨_, rfl⟩
  have hnv2 : Now H2 v l := by
    rcases hnv with h | ⟨B, g, T', cap, h1, hB, h2⟩
    · exact .inl h
    · refine .inr ⟨B, g, T', cap, h1, ?_, h2⟩
      rw [hH2, List.getElem?_set_ne]
      · exact hB
      · intro e; exact hvF B (by rw [h1]; simp [avIdx]) e.symm
  have hT2 : H2[T]? = some (.cells [.r (allV d)] ty_Stally_told 1) := by rw [hH2, List.getElem?_set_ne hFT]; exact hT
  obtain ⟨c2, k2⟩ := decide_spec (v := v) (d := d) hl (by omega) hd40 e { h := H2, wr := [F] } (fun H' hH' => by
    refine (Now.keep hnv2 fun j T' g hj => ?_).arr
    have hH' : H'.take H2.length = H2 := hH'
    rw [take_get hH' (getElem?_lt hj) |>.trans hj])
  have hset : ∃ W', Go.AM.settle C.fz (C.keepAll fn_tally_Ask_1) { h := H, wr := W } (bo (decB d l)) { h := H2, wr := [F] } = (bo (decB d l), { h := H2, wr := W' }) ∧ ∀ y ∈ W', y ∈ W ∨ y = F := by
    have := settle_one (H := H) (W := W) (W1 := [F]) (B := F) (g := 0) (T := ty_Sint) (cs := [slI l]) (v := bo (decB d l)) (v' := bo (decB d l)) hFl (by simp) (fun m => rfl)
    rw [hH2]; exact this
  obtain ⟨W', hs, hw⟩ := hset
  refine ⟨W', CallR.evalW (m1 := { h := H2, wr := [F] }) (v := bo (decB d l)) rfl prog_tally_Ask_1 rfl ⟨c1 + c2, fun k hk => ?_⟩ (by rw [hH2] at hs ⊢; exact hs), hw⟩
  obtain ⟨S, hS⟩ : ∃ S, S = slI l := ⟨_, rfl⟩
  have hok : okV (.r S) = true ∧ AV.cells (.r S) = [.r S] := by
    rw [hS]; unfold slI gsV; split <;> exact ⟨rfl, rfl⟩
  obtain ⟨V, hV⟩ : ∃ V, V = allV d := ⟨_, rfl⟩
  rw [← hS] at k1 hH2
  rw [← hV] at hT2 k2
  have h1 := hok.1
  have h2 := hok.2
  simp only [okV, ok1] at h1
  simp only [AV.cells] at h2
  simp [runK, finK, a_tally_Ask_1, -okV, -ok1, -AV.cells, k1 k (by omega), hok, hF, ← hH2, hT2, k2 k (by omega)]
end
end Go.AM.T
/- What the functions compute (own work). -/
namespace Go.AM.T
open Go Go.AM
attribute [local simp] so_mov so_pick so_alloc so_box so_build so_slit so_load so_store so_nilc so_bin so_beq so_eqs so_eqn so_eqnl so_not so_conv so_s2b so_mkfn so_slcA so_padd so_fld so_idxA so_idxV so_idxT so_look so_mupd so_mkmap so_mksl so_ext so_app so_lenT so_lenM so_min so_max so_cpy so_clr so_mkif so_tass so_lenS so_idxS so_slc
attribute [local simp] dn_skip dn_label dn_ret dn_exit dn_scope dn_keep dn_reg dn_draw0 noSlots denE denEI stepE  sd_mov sd_pick sd_build sd_load sd_store sd_nilc sd_bin sd_beq sd_eqs sd_eqn sd_eqnl sd_not sd_conv sd_s2b sd_mkfn sd_slc sd_slcA sd_padd sd_fld sd_idxS sd_idxA sd_idxV sd_idxT sd_look sd_mupd sd_ext sd_app sd_lenS sd_lenT sd_lenM sd_min sd_max sd_mkif sd_tass sd_call sd_slit dn_seq dn_cond dn_block dn_loop kn_call denIs denI denOp wants ev eget putD binL enumFrom AV.bool? AV.int? ekeep evs evp runV fin runDefs resAll resOf tupOf unit AV.cells okV ok1 Value.oneCell' fill setN rcells rs_nil rs_cons load_own load_cons mkAgg_rs storeN jmpOut
attribute [local simp] dvL dv1t dvAt mkAgg2 dv0 dv1 dv2 dv3 dv4 dv5 dv6 dv7 dv8 dv9 dv10 dvA dvN dvAll C_fz fzr
section
variable {d : Div} {F T D Ch : Nat}
theorem may_nat {d : Div} : ∀ x ∈ doubtsL d, 0 ≤ x ∧ x < d.n := by
  intro x hx
  unfold doubtsL at hx
  obtain ⟨i, hi, rfl⟩ := List.mem_map.1 hx
  have := (List.mem_filter.1 hi).1
  simp at this
  omega
theorem one_loop (hd40 : d.n ≤ 40) (e : openI d = 0) {H : List Blk} (hFl : F < H.length) (hT : H[T]? = some (.cells [.r (allV d)] ty_Stally_told 1)) (hD : H[D]? = some (.cells [.r (slI (doubtsL d))] ty_Sint 1)) (hC : H[Ch]? = some (.cells [chV F T D Ch] ty_func_Sint_int_int_bool 0))
    (hFT : F ≠ T) (hFD : F ≠ D) (hFC : F ≠ Ch) :
    ∀ (k i : Nat) (s : St) (y : RV), i + k = (doubtsL d).length → ekeep [0, 2, 5, 6, 11] s.env = [(0, .r .nil), (2, i64 1), (5, .own D 1 0), (6, .own Ch 0 0), (11, i64 i)] → s.m.h.take H.length = H.set F (.cells [.r y] ty_Sint 0) → (∀ x ∈ s.m.wr, x = F ∨ H.length ≤ x) → s.defs = [] →
      ∃ s' o z, Loop C [0, 2, 5, 6, 11] l_tally_Ask_1_0 s o s' ∧ s'.m.h.take H.length = H.set F (.cells [.r z] ty_Sint 0) ∧ (∀ x ∈ s'.m.wr, x = F ∨ H.length ≤ x) ∧ s'.defs = [] ∧
        ((o = .ret ∧ eget s'.env 10 = bo true ∧ ∃ x, ((doubtsL d).drop i).find? (fun x => decB d [x]) = some x ∧ z = slI [x]) ∨ (o = .exit 0 ∧ ((doubtsL d).drop i).find? (fun x => decB d [x]) = none)) := by
  have hS : SlI (doubtsL d) (slI (doubtsL d)) := Sl.slI _
  have hlen : (doubtsL d).length ≤ 40 := by have := doubtsL_len d; omega
  intro k
  induction k with
  | zero =>
    intro i s y hi he hm hw hd
    obtain ⟨M, hMM⟩ : ∃ M, M = s.m := ⟨_, rfl⟩
    obtain ⟨Hc, W⟩ := M
    rw [← hMM] at hm hw
    simp only at hm hw
    have hD' : Hc[D]? = some (.cells [.r (slI (doubtsL d))] ty_Sint 1) := by rw [take_get hm (getElem?_lt hD), List.getElem?_set_ne hFD]; exact hD
    have e1 : ((i : Int) < ((doubtsL d).length : Int)) = False := eq_false (by omega)
    have : (doubtsL d).drop i = [] := List.drop_eq_nil_of_le (by omega)
    rw [this]
    exact ⟨_, .exit 0, y, .stop (.of fun K => by rw [he]; simp [l_tally_Ask_1_0, ← hMM, hD', hS.len, e1]; rfl) (by simp), by simp [hm], by simpa using hw, by simp [hd], .inr ⟨rfl, rfl⟩⟩
  | succ k ih =>
    intro i s y hi he hm hw hd
    obtain ⟨M, hMM⟩ : ∃ M, M = s.m := ⟨_, rfl⟩
    obtain ⟨Hc, W⟩ := M
    rw [← hMM] at hm hw
    simp only at hm hw
    have hcl : H.length ≤ Hc.length := by
      have := congrArg List.length hm
      rw [List.length_take, List.length_set] at this; omega
    have up : ∀ j b, j ≠ F → H[j]? = some b → Hc[j]? = some b := fun j b hj hb => by rw [take_get hm (getElem?_lt hb), List.getElem?_set_ne (Ne.symm hj)]; exact hb
    have hD' := up D _ (Ne.symm hFD) hD
    have hC' := up Ch _ (Ne.symm hFC) hC
    have hT' := up T _ (Ne.symm hFT) hT
    have hF' : Hc[F]? = some (.cells [.r y] ty_Sint 0) := by rw [take_get hm hFl, List.getElem?_set_self hFl]
    have hil : i < (doubtsL d).length := by omega
    have e1 : ((i : Int) < ((doubtsL d).length : Int)) = True := eq_true (by omega)
    have w1 : IntKind.wrap .i64 ((i : Int) + 1) = i + 1 := by rw [w64] <;> omega
    obtain ⟨x, hx⟩ : ∃ x, x = (doubtsL d)[i] := ⟨_, rfl⟩
    have hxr : 0 ≤ x ∧ x < 40 := by have := may_nat (d := d) x (by rw [hx]; exact List.getElem_mem hil); omega
    have hat := hS.at (sz := 1) hil
    have hld : ∀ m, loadV m (.r (.ptr ((ints .i64 (doubtsL d)).drop i))) 1 false = some (i64 x) := fun m => by rw [load_ints hil, hx]
    have hdrop : (doubtsL d).drop i = x :: (doubtsL d).drop (i + 1) := by rw [hx]; exact List.drop_eq_getElem_cons hil
    obtain ⟨H2, hH2⟩ : ∃ H2, H2 = Hc ++ [.cells [i64 x] ty_int 0] := ⟨_, rfl⟩
    have hA : appendA { h := Hc } ty_int 1 8 (.r .nil) (.r (.sl [.lit (.int .i64 x)] 1 (some 1))) = some (.osl Hc.length 0 0 1 1 none, { h := H2 }) := by
      unfold appendA
      simp [slCells, rs, roomOk, hH2]
    have hgetN : H2[Hc.length]? = some (.cells [i64 x] ty_int 0) := by simp [hH2]
    have up2 : ∀ j b, Hc[j]? = some b → H2[j]? = some b := fun j b hb => by rw [hH2, List.getElem?_append_left (getElem?_lt hb)]; exact hb
    have hCl := getElem?_lt hC'
    obtain ⟨W2, ⟨c1, k1⟩, hw2⟩ := choose_leaf (F := F) (T := T) (D := D) (Ch := Ch) (l := [x]) (d := d) (by simpa using hxr) (by simp) hd40 e (up2 _ _ hF') (up2 _ _ hT') hFT (v := .osl Hc.length 0 0 1 1 none) (.inr ⟨Hc.length, 0, ty_int, none, rfl, by rw [hgetN]; rfl, by simp⟩) (by
      intro j hj
      simp [avIdx] at hj
      omega) (i + 1) []
    have hw2' : ∀ z ∈ W2, z = F := fun z hz => by simpa using hw2 z hz
    have hap : apartL (wrAll Hc.length { h := H2 }) [Ch] = true := by
      unfold apartL wrAll
      rw [List.all_eq_true]
      intro z hz
      simp [hH2] at hz
      subst hz
      simp; omega
    have hPm : (H2.set F (.cells [.r (slI [x])] ty_Sint 0)).take H.length = H.set F (.cells [.r (slI [x])] ty_Sint 0) := by
      rw [List.take_set, hH2, List.take_append_of_le_length hcl, hm, List.set_set]
    obtain ⟨DV, hDV⟩ : ∃ DV, DV = slI (doubtsL d) := ⟨_, rfl⟩
    obtain ⟨DI, hDI⟩ : ∃ DI, DI = ints .i64 (doubtsL d) := ⟨_, rfl⟩
    have hln := hS.len
    rw [← hDV] at hD' hat hln
    rw [← hDI] at hat hld
    obtain ⟨cv, hcv⟩ : ∃ cv, cv = chV F T D Ch := ⟨_, rfl⟩
    rw [← hcv] at hC' k1
    obtain ⟨H3, hH3⟩ : ∃ H3, H3 = H2.set F (.cells [.r (slI [x])] ty_Sint 0) := ⟨_, rfl⟩
    rw [← hH3] at k1 hPm
    have hW : ∀ z ∈ W2 ++ W, z = F ∨ H.length ≤ z := fun z hz => by
      rcases List.mem_append.1 hz with h | h
      · exact .inl (hw2' z h)
      · exact hw z h
    have hk1 : ∀ n, c1 ≤ n → callN C n cv [.osl Hc.length 0 0 1 1 none, .r (.lit (.int .i64 ((i : Int) + 1))), i64 0] { h := H2 } = some (.ret (bo (decB d [x])) { h := H3, wr := W2 }) := k1
    cases hb : decB d [x] with
    | true =>
      rw [hb] at hk1
      refine ⟨_, .ret, slI [x], .stop (.ofN ⟨c1, fun n hn => by
        rw [he]
        simp [l_tally_Ask_1_0, dn_drawF, denF, denFI, stepF, slotFree, slotOf, foot, avIdx, pairsOk, apartL_nil, wrAll_self, hap, ← hMM, hD', hln, e1, hC', hat, hld, allR, AV.toR, repl, hA, w1, wk0, hk1 n hn]
        rfl⟩) (by simp), ?_, ?_, by simp [hd], .inl ⟨rfl, by simp, x, ?_, rfl⟩⟩
      · simpa using hPm
      · simpa using hW
      · rw [hdrop, List.find?_cons, hb]
    | false =>
      rw [hb] at hk1
      obtain ⟨s', o, z, h1, h2, h3, h4, h5⟩ := ih (i + 1) { s with env := [(0, .r .nil), (2, i64 1), (5, .own D 1 0), (6, .own Ch 0 0), (11, i64 (i + 1 : Nat))], m := { h := H3, wr := W2 ++ W } } (slI [x]) (by omega) (by simp) hPm hW hd
      refine ⟨s', o, z, .more (.ofN ⟨c1, fun n hn => ?_⟩) h1, h2, h3, h4, ?_⟩
      · rw [he]
        simp [l_tally_Ask_1_0, dn_drawF, denF, denFI, stepF, slotFree, slotOf, foot, avIdx, pairsOk, apartL_nil, wrAll_self, hap, ← hMM, hD', hln, e1, hC', hat, hld, allR, AV.toR, repl, hA, w1, wk0, hk1 n hn]
      · rw [hdrop, List.find?_cons, hb]; exact h5
/-- All single members are tried. -/
theorem choose_one (hd40 : d.n ≤ 40) (e : openI d = 0) {H : List Blk} {x : RV} (hF : H[F]? = some (.cells [.r x] ty_Sint 0)) (hT : H[T]? = some (.cells [.r (allV d)] ty_Stally_told 1)) (hD : H[D]? = some (.cells [.r (slI (doubtsL d))] ty_Sint 1)) (hC : H[Ch]? = some (.cells [chV F T D Ch] ty_func_Sint_int_int_bool 0))
    (hFT : F ≠ T) (hFD : F ≠ D) (hFC : F ≠ Ch) (W : List Nat) :
    ∃ W' z, CallR C (chV F T D Ch) [.r .nil, i64 0, i64 1] { h := H, wr := W } (.ret (bo ((doubtsL d).find? fun x => decB d [x]).isSome) { h := H.set F (.cells [.r z] ty_Sint 0), wr := W' }) ∧ (∀ y ∈ W', y ∈ W ∨ y = F) ∧ ∀ x, (doubtsL d).find? (fun x => decB d [x]) = some x → z = slI [x] := by
  have hFl := getElem?_lt hF
  obtain ⟨s, o, z, l1, h2, h3, h4, h5⟩ := one_loop hd40 e hFl hT hD hC hFT hFD hFC (doubtsL d).length 0 { env := [(0, .r .nil), (2, i64 1), (5, .own D 1 0), (6, .own Ch 0 0), (11, i64 0)], m := { h := H } } x (by omega) (by simp) (by simp [set_same hF]) (by simp) rfl
  rw [List.drop_zero] at h5
  obtain ⟨c1, k1⟩ := l1.get
  obtain ⟨Hc, W1, hsm⟩ : ∃ Hc W1, s.m = { h := Hc, wr := W1 } := ⟨_, _, rfl⟩
  rw [hsm] at h2 h3
  simp only at h2 h3
  have hset : ∀ b : Bool, ∃ W', Go.AM.settle C.fz (C.keepAll fn_tally_Ask_1) { h := H, wr := W } (bo b) { h := Hc, wr := W1 } = (bo b, { h := H.set F (.cells [.r z] ty_Sint 0), wr := W' }) ∧ ∀ y ∈ W', y ∈ W ∨ y = F := by
    intro b
    refine ⟨oldWr H.length W1 ++ W, ?_, fun y hy => ?_⟩
    · rw [show C.keepAll fn_tally_Ask_1 = false from rfl, settle_w (v' := bo b) rfl]
      · show _ = (bo b, Mem.mk (H.set F _) _)
        rw [← h2]
      · intro j hj hjl q hq
        simp only at hq hjl
        have : j = F := by rcases h3 j hj with h | h <;> omega
        subst this
        rw [take_get h2 hFl, List.getElem?_set_self hFl] at hq
        cases hq; rfl
    · rcases List.mem_append.1 hy with hy | hy
      · unfold oldWr at hy
        obtain ⟨q1, q2⟩ := List.mem_filter.1 hy
        have q2 : y < H.length := by simpa using q2
        rcases h3 y q1 with h | h
        · exact .inr h
        · omega
      · exact .inl hy
  rcases h5 with ⟨rfl, h5, x', h6, h7⟩ | ⟨rfl, h6⟩
  · obtain ⟨W', hs, hw⟩ := hset true
    refine ⟨W', z, CallR.evalW (m1 := { h := Hc, wr := W1 }) (v := bo true) rfl prog_tally_Ask_1 rfl ⟨c1, fun k hk => ?_⟩ (by rw [h6]; exact hs), hw, fun y hy => by rw [h6] at hy; cases hy; exact h7⟩
    simp [runK, finK, a_tally_Ask_1, k1 k hk, h5, h4, hsm]
  · obtain ⟨W', hs, hw⟩ := hset false
    refine ⟨W', z, CallR.evalW (m1 := { h := Hc, wr := W1 }) (v := bo false) rfl prog_tally_Ask_1 rfl ⟨c1, fun k hk => ?_⟩ (by rw [h6]; exact hs), hw, fun y hy => by rw [h6] at hy; cases hy⟩
    simp [runK, finK, a_tally_Ask_1, k1 k hk, h4, hsm]
end
end Go.AM.T
/- What the functions compute (own work). -/
namespace Go.AM.T
open Go Go.AM
attribute [local simp] so_mov so_pick so_alloc so_box so_build so_slit so_load so_store so_nilc so_bin so_beq so_eqs so_eqn so_eqnl so_not so_conv so_s2b so_mkfn so_slcA so_padd so_fld so_idxA so_idxV so_idxT so_look so_mupd so_mkmap so_mksl so_ext so_app so_lenT so_lenM so_min so_max so_cpy so_clr so_mkif so_tass so_lenS so_idxS so_slc
attribute [local simp] dn_skip dn_label dn_ret dn_exit dn_scope dn_keep dn_reg dn_draw0 noSlots denE denEI stepE  sd_mov sd_pick sd_build sd_load sd_store sd_nilc sd_bin sd_beq sd_eqs sd_eqn sd_eqnl sd_not sd_conv sd_s2b sd_mkfn sd_slc sd_slcA sd_padd sd_fld sd_idxS sd_idxA sd_idxV sd_idxT sd_look sd_mupd sd_ext sd_app sd_lenS sd_lenT sd_lenM sd_min sd_max sd_mkif sd_tass sd_call sd_slit dn_seq dn_cond dn_block dn_loop kn_call denIs denI denOp wants ev eget putD binL enumFrom AV.bool? AV.int? ekeep evs evp runV fin runDefs resAll resOf tupOf unit AV.cells okV ok1 Value.oneCell' fill setN rcells rs_nil rs_cons load_own load_cons mkAgg_rs storeN jmpOut
attribute [local simp] dvL dv1t dvAt mkAgg2 dv0 dv1 dv2 dv3 dv4 dv5 dv6 dv7 dv8 dv9 dv10 dvA dvN dvAll C_fz fzr
theorem sd_slot (K : Kit) (base : Nat) (e : Env) (h : List Blk) (k : Nat) (t : TypeId) (z : List RV) : stepD K base e h (.slot k t z) = match h[base + k]? with
    | some .dead => some (.own (base + k) 1 0, { h := h.set (base + k) (.cells (rs z) t 1), wr := [base + k] })
    | _ => none := rfl
section
variable {d : Div} {a0 a1 n0 n1 p q : RV}
/-- The least question, where one member is enough. -/
theorem Ask_one (hs : DivS d a0 a1 n0 n1 p q) (hb : Small d) (hru : 0 ≤ d.rule ∧ d.rule ≤ 255) (e : openI d = 0) (h2 : 2 ≤ (doubtsL d).length) (h0 : decB d [] = false) {x : Int} (hx : (doubtsL d).find? (fun x => decB d [x]) = some x) (m : Mem) :
    CallR C (fnv fn_tally_Ask) [.r (.agg (divC d a0 a1 n0 n1 p q))] m (.ret (.tup [.r (slI [x]), i64 0]) m) := by
  obtain ⟨R, hRR⟩ : ∃ R, R = lookC d (divC d a0 a1 n0 n1 p q) := ⟨_, rfl⟩
  have lR : R.length = 91 := by rw [hRR]; exact lookC_len
  have hRt : List.take 91 (rs R) = rs R := List.take_of_length_le (by rw [rs_len]; omega)
  obtain ⟨Z, hZ⟩ : ∃ Z, Z = z_tally_looked := ⟨_, rfl⟩
  have hZl : Z.length = 91 := by rw [hZ]; rfl
  have hZd : List.drop 91 (rs Z) = [] := List.drop_eq_nil_of_le (by rw [rs_len]; omega)
  have hd11 : (divC d a0 a1 n0 n1 p q).length = 11 := rfl
  obtain ⟨hr, -, -⟩ := openI0 e
  have hn := right_n hr
  obtain ⟨c1, k1⟩ := topen_spec hs hb hru { h := m.h ++ [.cells (rs (divC d a0 a1 n0 n1 p q)) ty_tally_Division 0] }
  rw [if_pos e, e, ← hRR] at k1
  obtain ⟨c2, k2⟩ := doubts_spec (d := d) (a0 := a0) (a1 := a1) (n0 := n0) (n1 := n1) (p := p) (q := q) hn { h := m.h ++ [.cells (rs (divC d a0 a1 n0 n1 p q)) ty_tally_Division 0, .cells (rs R) ty_tally_looked 0, .dead, .dead] }
  obtain ⟨c3, k3⟩ := all_told_spec hs hru.1 e { h := m.h ++ [.cells (rs (divC d a0 a1 n0 n1 p q)) ty_tally_Division 0, .cells (rs R) ty_tally_looked 0, .dead, .dead] }
  rw [← hRR] at k2 k3
  obtain ⟨D, hD⟩ : ∃ D, D = divC d a0 a1 n0 n1 p q := ⟨_, rfl⟩
  rw [← hD] at k1 k2 k3 hd11 ⊢
  have hDt : List.take 11 (rs D) = rs D := List.take_of_length_le (by rw [rs_len]; omega)
  obtain ⟨F, hF⟩ : ∃ F, F = m.h.length + 4 := ⟨_, rfl⟩
  obtain ⟨H, hH⟩ : ∃ H, H = m.h ++ [.cells (rs D) ty_tally_Division 0, .cells (rs R) ty_tally_looked 0, .cells [.r (slI (doubtsL d))] ty_Sint 1, .cells [.r (allV d)] ty_Stally_told 1, .cells [.r .nil] ty_Sint 0, .cells [chV (m.h.length + 4) (m.h.length + 3) (m.h.length + 2) (m.h.length + 5)] ty_func_Sint_int_int_bool 0] := ⟨_, rfl⟩
  have g2 : H[m.h.length + 2]? = some (.cells [.r (slI (doubtsL d))] ty_Sint 1) := by rw [hH, get_midk]; rfl
  have g3 : H[m.h.length + 3]? = some (.cells [.r (allV d)] ty_Stally_told 1) := by rw [hH, get_midk]; rfl
  have g4 : H[m.h.length + 4]? = some (.cells [.r .nil] ty_Sint 0) := by rw [hH, get_midk]; rfl
  have g5 : H[m.h.length + 5]? = some (.cells [chV (m.h.length + 4) (m.h.length + 3) (m.h.length + 2) (m.h.length + 5)] ty_func_Sint_int_int_bool 0) := by rw [hH, get_midk]; rfl
  obtain ⟨W1, ⟨c4, k4⟩, hw1⟩ := choose_leaf (F := m.h.length + 4) (T := m.h.length + 3) (D := m.h.length + 2) (Ch := m.h.length + 5) (l := []) (d := d) (by simp) (by simp) hn.2 e g4 g3 (by omega) (v := .r .nil) (.inl ⟨rfl, rfl⟩) (by simp [avIdx]) 0 [m.h.length + 5, m.h.length + 3, m.h.length + 2, m.h.length + 3, m.h.length + 2, m.h.length + 1]
  rw [h0] at k4
  obtain ⟨H2, hH2⟩ : ∃ H2, H2 = H.set (m.h.length + 4) (.cells [.r (slI [])] ty_Sint 0) := ⟨_, rfl⟩
  rw [← hH2] at k4
  have f2 : H2[m.h.length + 2]? = some (.cells [.r (slI (doubtsL d))] ty_Sint 1) := by rw [hH2, List.getElem?_set_ne (by omega)]; exact g2
  have f3 : H2[m.h.length + 3]? = some (.cells [.r (allV d)] ty_Stally_told 1) := by rw [hH2, List.getElem?_set_ne (by omega)]; exact g3
  have f4 : H2[m.h.length + 4]? = some (.cells [.r (slI [])] ty_Sint 0) := by rw [hH2, List.getElem?_set_self (getElem?_lt g4)]
  have f5 : H2[m.h.length + 5]? = some (.cells [chV (m.h.length + 4) (m.h.length + 3) (m.h.length + 2) (m.h.length + 5)] ty_func_Sint_int_int_bool 0) := by rw [hH2, List.getElem?_set_ne (by omega)]; exact g5
  obtain ⟨W2, z, ⟨c5, k5⟩, hw2, hz⟩ := choose_one (x := slI []) hn.2 e f4 f3 f2 f5 (by omega) (by omega) (by omega) W1
  rw [hx] at k5
  have hz := hz x hx
  rw [hz] at k5
  obtain ⟨H3, hH3⟩ : ∃ H3, H3 = H2.set (m.h.length + 4) (.cells [.r (slI [x])] ty_Sint 0) := ⟨_, rfl⟩
  rw [← hH3] at k5
  have i4 : H3[m.h.length + 4]? = some (.cells [.r (slI [x])] ty_Sint 0) := by rw [hH3, List.getElem?_set_self (getElem?_lt f4)]
  have e1 : (0 < ((doubtsL d).length : Int)) = True := eq_true (by omega)
  have e2 : (1 < ((doubtsL d).length : Int)) = True := eq_true (by omega)
  have e1' : (0 < (doubtsL d).length) = True := eq_true (by omega)
  have e2' : (1 < (doubtsL d).length) = True := eq_true (by omega)
  have hl := (Sl.slI (doubtsL d)).len
  have ht : H3.take m.h.length = m.h := by rw [hH3, List.take_set_of_le (by omega), hH2, List.take_set_of_le (by omega), hH]; simp
  have hxs : slI [x] = .sl [.lit (.int .i64 x)] 1 none := rfl
  obtain ⟨DI, n, hDV⟩ : ∃ DI n, slI (doubtsL d) = .sl DI n none := ⟨ints .i64 (doubtsL d), (doubtsL d).length, by unfold slI gsV; rw [if_neg (by omega)]⟩
  obtain ⟨TC, tn, hV⟩ : ∃ TC tn, allV d = .sl TC tn none := ⟨_, _, rfl⟩
  rw [hDV] at hl k2 g2 f2 hH
  rw [hV] at k3 g3 f3 hH
  have hwr : ∀ y ∈ W2, m.h.length ≤ y := fun y hy => by
    rcases hw2 y hy with h | rfl
    · rcases hw1 y h with h | rfl
      · simp at h; omega
      · omega
    · omega
  simp only [chV] at hH k4 k5 g5 f5
  refine CallR.eval (m1 := { h := H3, wr := W2 }) rfl rfl prog_tally_Ask rfl ⟨c1 + c2 + c3 + c4 + c5 + 5, fun k hk => ?_⟩ ht hwr
  obtain ⟨j, rfl⟩ : ∃ j, k = j + 5 := ⟨k - 5, by omega⟩
  have l21 : m.h.length + 2 + 1 = m.h.length + 3 := rfl
  simp [a_tally_Ask, l21, dn_drawF, sd_slot, denF, denFI, stepF, slotFree, slotOf, foot, avIdx, wrAll, pairsOk, apartL, ← hZ, hd11, hDt, rs_len, hZl, hZd, lR, hRt, k1 (j + 5) (by omega), k2 (j + 5) (by omega), k3 (j + 5) (by omega), allR, AV.toR, ← hH, goLoop, kn_iter, iterN, l_tally_Ask_0, g2, g5, f2, f5, i4, hl, e1, e2, e1', e2', wk0, wk1, k4 (j + 5) (by omega), k5 (j + 5) (by omega), hxs, fz, fzs]
end
end Go.AM.T
/- What the functions compute (own work). -/
namespace Go.AM.T
open Go Go.AM
attribute [local simp] so_mov so_pick so_alloc so_box so_build so_slit so_load so_store so_nilc so_bin so_beq so_eqs so_eqn so_eqnl so_not so_conv so_s2b so_mkfn so_slcA so_padd so_fld so_idxA so_idxV so_idxT so_look so_mupd so_mkmap so_mksl so_ext so_app so_lenT so_lenM so_min so_max so_cpy so_clr so_mkif so_tass so_lenS so_idxS so_slc
attribute [local simp] dn_skip dn_label dn_ret dn_exit dn_scope dn_keep dn_reg dn_draw0 noSlots denE denEI stepE  sd_mov sd_pick sd_build sd_load sd_store sd_nilc sd_bin sd_beq sd_eqs sd_eqn sd_eqnl sd_not sd_conv sd_s2b sd_mkfn sd_slc sd_slcA sd_padd sd_fld sd_idxS sd_idxA sd_idxV sd_idxT sd_look sd_mupd sd_ext sd_app sd_lenS sd_lenT sd_lenM sd_min sd_max sd_mkif sd_tass sd_call sd_slit dn_seq dn_cond dn_block dn_loop kn_call denIs denI denOp wants ev eget putD binL enumFrom AV.bool? AV.int? ekeep evs evp runV fin runDefs resAll resOf tupOf unit AV.cells okV ok1 Value.oneCell' fill setN rcells rs_nil rs_cons load_own load_cons mkAgg_rs storeN jmpOut
attribute [local simp] dvL dv1t dvAt mkAgg2 dv0 dv1 dv2 dv3 dv4 dv5 dv6 dv7 dv8 dv9 dv10 dvA dvN dvAll C_fz fzr
def il (l : List Int) : RV := .sl (ints .i64 l) l.length (some l.length)
def ul (l : List Int) : RV := .sl (ints .u8 l) l.length (some l.length)
def pl (l : List (Int × Int)) : RV := .sl (prs l) l.length (some l.length)
/-- The division of the document's examples. -/
def lobD : Div := ⟨6, [0, 1, 2], [0, 1, 3], [4, 5], [4, 5], [], [(4, 3)], 0, 0, 3, 2⟩
def lobC : List RV := divC lobD (il [0, 1, 2]) (il [0, 1, 3]) (il [4, 5]) (il [4, 5]) .nil (pl [(4, 3)])
theorem il_S (l : List Int) : SlI l (il l) := Sl.mk _ _ _
theorem pl_S (l : List (Int × Int)) : SlP l (pl l) := Sl.mk _ _ _
theorem lobS : DivS lobD (il [0, 1, 2]) (il [0, 1, 3]) (il [4, 5]) (il [4, 5]) .nil (pl [(4, 3)]) := ⟨il_S _, il_S _, il_S _, il_S _, Sl.nil, pl_S _⟩
theorem lobbies_spec (m : Mem) : CallR C (fnv fn_law07_lobbies) [] m (.ret (.r (.agg lobC)) m) := by
  refine CallR.eval (m1 := { h := m.h ++ [.cells (rs lobC) ty_tally_Division 0], wr := [m.h.length] }) rfl rfl prog_law07_lobbies rfl ⟨0, fun k hk => ?_⟩ (by simp) (by simp)
  simp [a_law07_lobbies, allR, AV.toR, mkAgg, repl, lobC, divC, il, pl, ints, prs, lobD]
theorem lobOpen : openI lobD = 0 := by kernel_rfl
theorem lobDoubts : doubtsL lobD = [2, 3] := by kernel_rfl
theorem lobBn : (bnL lobD).a = (2, 4) ∧ (bnL lobD).b = (2, 3) := ⟨by kernel_rfl, by kernel_rfl⟩
theorem lobAl : alS lobD = [0, 1] := by kernel_rfl
theorem lobDec0 : decB lobD [] = false := by kernel_rfl
theorem lobDec1 : (doubtsL lobD).find? (fun x => decB lobD [x]) = some 3 := by kernel_rfl
theorem lobSmall : Small lobD := ⟨by decide, by decide, by decide, by decide, by decide, by decide⟩
theorem lobRule : 0 ≤ lobD.rule ∧ lobD.rule ≤ 255 := by decide
/-- The law's examples hold, whatever memory holds. -/
theorem wakes_spec (m : Mem) : CallR C (fnv fn_law07_wakes) [] m (.ret (bo true) m) := by
  have hf : faultI lobD = 0 := by kernel_rfl
  obtain ⟨c1, k1⟩ := lobbies_spec { h := m.h }
  obtain ⟨c2, k2⟩ := Doubts_spec lobS lobSmall lobRule { h := m.h }
  obtain ⟨c3, k3⟩ := Bounds_spec lobS lobSmall lobRule { h := m.h }
  obtain ⟨H, hH⟩ : ∃ H, H = m.h ++ [.cells [i64 2, i64 4] ty_tally_Range 0, .cells [i64 2, i64 3] ty_tally_Range 0] := ⟨_, rfl⟩
  obtain ⟨c4, k4⟩ := lobbies_spec { h := H, wr := [m.h.length + 1, m.h.length] }
  obtain ⟨c5, k5⟩ := Allowed_spec lobS lobSmall lobRule { h := H, wr := [m.h.length + 1, m.h.length] }
  obtain ⟨c6, k6⟩ := Ask_one lobS lobSmall lobRule lobOpen (by rw [lobDoubts]; decide) lobDec0 lobDec1 { h := H, wr := [m.h.length + 1, m.h.length] }
  rw [if_pos hf, hf, lobDoubts] at k2
  rw [if_pos lobOpen, if_pos lobOpen, lobOpen, lobBn.1, lobBn.2] at k3
  rw [if_pos lobOpen, lobOpen, lobAl] at k5
  have g0 : H[m.h.length]? = some (.cells [i64 2, i64 4] ty_tally_Range 0) := by simp [hH]
  have g1 : H[m.h.length + 1]? = some (.cells [i64 2, i64 3] ty_tally_Range 0) := by simp [hH]
  obtain ⟨c7, k7⟩ := law07_ints_spec (Sl.slI [2, 3]) (il_S [2, 3]) (by decide) { h := H, wr := [m.h.length + 1, m.h.length] }
  obtain ⟨c8, k8⟩ := law07_ints_spec (Sl.slI [3]) (il_S [3]) (by decide) { h := H, wr := [m.h.length + 1, m.h.length] }
  obtain ⟨c9, k9⟩ := law07_votes_spec (l := [0, 1]) (k := [0, 1]) (v := .sl (ints .u8 [0, 1]) 2 none) (w := .sl (ints .u8 [0, 1]) 2 (some 2)) (Sl.mk _ _ _) (Sl.mk _ _ _) (by decide) { h := H, wr := [m.h.length + 1, m.h.length] }
  obtain ⟨Lc, hLc⟩ : ∃ Lc, Lc = lobC := ⟨_, rfl⟩
  rw [show divC lobD (il [0, 1, 2]) (il [0, 1, 3]) (il [4, 5]) (il [4, 5]) .nil (pl [(4, 3)]) = lobC from rfl, ← hLc] at k2 k3 k5 k6
  rw [← hLc] at k1 k4
  have ht : H.take m.h.length = m.h := by simp [hH]
  refine CallR.eval (m1 := { h := H, wr := [m.h.length + 1, m.h.length] }) rfl rfl prog_law07_wakes rfl ⟨c1 + c2 + c3 + c4 + c5 + c6 + c7 + c8 + c9, fun k hk => ?_⟩ ht (by simp)
  have k7 := k7 k (by omega)
  have k8 := k8 k (by omega)
  have k9 := k9 k (by omega)
  simp [slI, gsV, ints, il] at k7 k8 k9
  have k2 := k2 k (by omega)
  have k3 := k3 k (by omega)
  have k5 := k5 k (by omega)
  have k6 := k6 k (by omega)
  simp [slI, gsV, ints, nmR] at k2 k3 k5 k6
  simp [a_law07_wakes, k1 k (by omega), k2, k3, k4 k (by omega), k5, k6, ← hH, allR, AV.toR, repl, mkAgg, k7, k8, k9, g0, g1, rvEqs, rvEq]
end Go.AM.T
/- What the functions compute (own work). -/
namespace Go.AM.T
open Go Go.AM
attribute [local simp] so_mov so_pick so_alloc so_box so_build so_slit so_load so_store so_nilc so_bin so_beq so_eqs so_eqn so_eqnl so_not so_conv so_s2b so_mkfn so_slcA so_padd so_fld so_idxA so_idxV so_idxT so_look so_mupd so_mkmap so_mksl so_ext so_app so_lenT so_lenM so_min so_max so_cpy so_clr so_mkif so_tass so_lenS so_idxS so_slc
attribute [local simp] dn_skip dn_label dn_ret dn_exit dn_scope dn_keep dn_reg dn_draw0 noSlots denE denEI stepE  sd_mov sd_pick sd_build sd_load sd_store sd_nilc sd_bin sd_beq sd_eqs sd_eqn sd_eqnl sd_not sd_conv sd_s2b sd_mkfn sd_slc sd_slcA sd_padd sd_fld sd_idxS sd_idxA sd_idxV sd_idxT sd_look sd_mupd sd_ext sd_app sd_lenS sd_lenT sd_lenM sd_min sd_max sd_mkif sd_tass sd_call sd_slit dn_seq dn_cond dn_block dn_loop kn_call denIs denI denOp wants ev eget putD binL enumFrom AV.bool? AV.int? ekeep evs evp runV fin runDefs resAll resOf tupOf unit AV.cells okV ok1 Value.oneCell' fill setN rcells rs_nil rs_cons load_own load_cons mkAgg_rs storeN jmpOut
attribute [local simp] dvL dv1t dvAt mkAgg2 dv0 dv1 dv2 dv3 dv4 dv5 dv6 dv7 dv8 dv9 dv10 dvA dvN dvAll C_fz fzr
theorem tg_pad (u : List Int) (i : Nat) : tg (pad u) i = tg u i := by
  unfold tg pad
  rw [List.getD_eq_getElem?_getD, List.getD_eq_getElem?_getD]
  by_cases h : i < u.length
  · rw [List.getElem?_append_left h]
  · rw [List.getElem?_append_right (by omega), List.getElem?_eq_none (by omega : u.length ≤ i)]
    by_cases h2 : i - u.length < 40 - u.length
    · rw [List.getElem?_replicate, if_pos h2]; rfl
    · rw [List.getElem?_replicate, if_neg h2]
theorem nums_pad (d : Div) (u : List Int) : numsL d (pad u) = numsL d u := by
  have h1 : memStep d (pad u) = memStep d u := by
    funext n i; unfold memStep; rw [tg_pad]
  have h2 : proxStep d (pad u) = proxStep d u := by
    funext n x; unfold proxStep; rw [tg_pad, tg_pad]
  unfold numsL numsM
  rw [h1, h2]
/-- What the law reckons: both ranges, out of numbers. -/
def lwStep (s : (Int × Int) × (Int × Int)) (n : Int × Int) : (Int × Int) × (Int × Int) := ((mn s.1.1 n.1, mx s.1.2 n.1), (mn s.2.1 n.2, mx s.2.2 n.2))
def lw0 (n : Int × Int) : (Int × Int) × (Int × Int) := ((n.1, n.1), (n.2, n.2))
def lwL : List (Int × Int) → (Int × Int) × (Int × Int)
  | [] => ((0, 0), (0, 0))
  | n :: l => l.foldl lwStep (lw0 n)
theorem bn_lw (d : Div) : ∀ (l : List (List Int)) (s : Bn), s.first = false → (s.a.1 ≤ s.last.1 ∧ s.last.1 ≤ s.a.2) → (s.b.1 ≤ s.last.2 ∧ s.last.2 ≤ s.b.2) →
    (foldS (bnStep d) s l).1.a = ((l.map (numsL d)).foldl lwStep (s.a, s.b)).1 ∧ (foldS (bnStep d) s l).1.b = ((l.map (numsL d)).foldl lwStep (s.a, s.b)).2
  | [], s, _, _, _ => ⟨rfl, rfl⟩
  | t :: l, s, hf, ha, hb => by
    rw [foldS_cons, if_pos (bnStep_2 d s t), List.map_cons, List.foldl_cons]
    have hs : (bnStep d s t).1 = ⟨false, (mn s.a.1 (numsL d t).1, mx s.a.2 (numsL d t).1), (mn s.b.1 (numsL d t).2, mx s.b.2 (numsL d t).2), numsL d t⟩ := by
      unfold bnStep
      rw [if_neg (by simp [hf])]
      split
      · rename_i e
        rw [e]
        have h1 : mn s.a.1 s.last.1 = s.a.1 := by unfold mn; split <;> omega
        have h2 : mx s.a.2 s.last.1 = s.a.2 := by unfold mx; split <;> omega
        have h3 : mn s.b.1 s.last.2 = s.b.1 := by unfold mn; split <;> omega
        have h4 : mx s.b.2 s.last.2 = s.b.2 := by unfold mx; split <;> omega
        rw [h1, h2, h3, h4]
      · rfl
    have ih := bn_lw d l (bnStep d s t).1 (by rw [hs]) (by
      rw [hs]; simp only [mn, mx]
      constructor <;> split <;> omega) (by
      rw [hs]; simp only [mn, mx]
      constructor <;> split <;> omega)
    rw [hs] at ih ⊢
    exact ih
theorem bnL_lw {d : Div} (ho : openI d = 0) : (bnL d).a = (lwL ((rtOf d).map (numsL d))).1 ∧ (bnL d).b = (lwL ((rtOf d).map (numsL d))).2 := by
  have hn := right_n (openI0 ho).1
  have hne := truthsOf_ne ho
  unfold bnL
  have hm : (rtOf d).map (numsL d) = (truthsOf d).map (numsL d) := by
    rw [truthsOf_rt hn.2, List.map_map]
    refine List.map_congr_left fun u _ => ?_
    show _ = numsL d (pad u)
    rw [nums_pad]
  rw [hm]
  cases ht : truthsOf d with
  | nil => exact absurd ht hne
  | cons t l =>
    rw [foldS_cons, if_pos (bnStep_2 d _ t), List.map_cons]
    have hs : (bnStep d bn0 t).1 = ⟨false, ((numsL d t).1, (numsL d t).1), ((numsL d t).2, (numsL d t).2), numsL d t⟩ := by unfold bnStep bn0; rfl
    have := bn_lw d l (bnStep d bn0 t).1 (by rw [hs]) (by rw [hs]; exact ⟨Int.le_refl _, Int.le_refl _⟩) (by rw [hs]; exact ⟨Int.le_refl _, Int.le_refl _⟩)
    rw [hs] at this ⊢
    exact this
theorem rt_ok {d : Div} : ∀ u ∈ rtOf d, u.length = d.n.toNat ∧ VOk u := fun u hu => ⟨by have := rtF_len _ _ _ hu; simpa using this, rtF_ok _ _ _ (by simp [VOk]) hu⟩
theorem rtOf_ne {d : Div} (ho : openI d = 0) : rtOf d ≠ [] := by
  have h := truthsOf_ne ho
  rw [truthsOf_rt (right_n (openI0 ho).1).2] at h
  simpa using h
theorem find_range {α : Type} (l : List α) (x0 : α) (p : α → Bool) : l.find? p = ((List.range l.length).find? fun j => p (l.getD j x0)).map fun j => l.getD j x0 := by
  induction l with
  | nil => rfl
  | cons x l ih =>
    rw [List.find?_cons, List.length_cons, List.range_succ_eq_map, List.find?_cons]
    have h0 : (x :: l).getD 0 x0 = x := rfl
    rw [h0]
    cases hp : p x with
    | true => rfl
    | false =>
      rw [ih, List.find?_map]
      have : ((fun j => p ((x :: l).getD j x0)) ∘ Nat.succ) = fun j => p (l.getD j x0) := by funext j; rfl
      rw [this, Option.map_map]
      rfl
theorem any_range {α : Type} (l : List α) (x0 : α) (p : α → Bool) : ((List.range l.length).any fun j => p (l.getD j x0)) = l.any p := by
  have h := find_range l x0 p
  have e1 : (l.find? p).isSome = l.any p := by rw [Bool.eq_iff_iff, List.find?_isSome, List.any_eq_true]
  have e2 : ((List.range l.length).find? fun j => p (l.getD j x0)).isSome = (List.range l.length).any fun j => p (l.getD j x0) := by rw [Bool.eq_iff_iff, List.find?_isSome, List.any_eq_true]
  rw [← e1, ← e2, h]; simp
theorem alL_rt {d : Div} (h : d.n ≤ 40) (o : Int) : (alL d).contains o = (rtOf d).any fun u => outcomeI d (numsL d u) == o := by
  rw [Bool.eq_iff_iff, List.any_eq_true]
  rw [List.contains_iff_mem, alL_mem, truthsOf_rt h]
  constructor
  · rintro ⟨t, ht, e⟩
    obtain ⟨u, hu, rfl⟩ := List.mem_map.1 ht
    exact ⟨u, hu, by rw [nums_pad] at e; simp [e]⟩
  · rintro ⟨u, hu, e⟩
    exact ⟨pad u, List.mem_map.2 ⟨u, hu, rfl⟩, by rw [nums_pad]; simpa using e⟩
theorem openI_1 (d : Div) : openI d = 1 ↔ rightB d = false := by
  unfold openI faultI
  cases rightB d with
  | false => simp
  | true =>
    cases (clashB d).isSome with
    | true => simp
    | false => by_cases h : 8 < (doubtsL d).length <;> simp [h]
end Go.AM.T
/- What the functions compute (own work). -/
namespace Go.AM.T
open Go Go.AM
attribute [local simp] so_mov so_pick so_alloc so_box so_build so_slit so_load so_store so_nilc so_bin so_beq so_eqs so_eqn so_eqnl so_not so_conv so_s2b so_mkfn so_slcA so_padd so_fld so_idxA so_idxV so_idxT so_look so_mupd so_mkmap so_mksl so_ext so_app so_lenT so_lenM so_min so_max so_cpy so_clr so_mkif so_tass so_lenS so_idxS so_slc
attribute [local simp] dn_skip dn_label dn_ret dn_exit dn_scope dn_keep dn_reg dn_draw0 noSlots denE denEI stepE  sd_mov sd_pick sd_build sd_load sd_store sd_nilc sd_bin sd_beq sd_eqs sd_eqn sd_eqnl sd_not sd_conv sd_s2b sd_mkfn sd_slc sd_slcA sd_padd sd_fld sd_idxS sd_idxA sd_idxV sd_idxT sd_look sd_mupd sd_ext sd_app sd_lenS sd_lenT sd_lenM sd_min sd_max sd_mkif sd_tass sd_call sd_slit dn_seq dn_cond dn_block dn_loop kn_call denIs denI denOp wants ev eget putD binL enumFrom AV.bool? AV.int? ekeep evs evp runV fin runDefs resAll resOf tupOf unit AV.cells okV ok1 Value.oneCell' fill setN rcells rs_nil rs_cons load_own load_cons mkAgg_rs storeN jmpOut
attribute [local simp] dvL dv1t dvAt mkAgg2 dv0 dv1 dv2 dv3 dv4 dv5 dv6 dv7 dv8 dv9 dv10 dvA dvN dvAll C_fz fzr
theorem has_u8 {x : RV} (h : Has (.int .u8) [x]) : ∃ n, x = .lit (.int .u8 n) ∧ (0 ≤ n ∧ n ≤ 255) := by
  obtain ⟨n, e, w⟩ := has_int h
  cases e
  have e1 : IntKind.min .u8 = 0 := by decide
  have e2 : IntKind.max .u8 = 255 := by decide
  exact ⟨n, rfl, by simpa [Lit.wf, e1, e2] using w⟩
theorem has_u32 {x : RV} (h : Has (.int .u32) [x]) : ∃ n, x = .lit (.int .u32 n) ∧ (0 ≤ n ∧ n ≤ 4294967295) := by
  obtain ⟨n, e, w⟩ := has_int h
  cases e
  have e1 : IntKind.min .u32 = 0 := by decide
  have e2 : IntKind.max .u32 = 4294967295 := by decide
  exact ⟨n, rfl, by simpa [Lit.wf, e1, e2] using w⟩
theorem has_bool {x : RV} (h : Has .bool [x]) : ∃ b, x = .lit (.bool b) := by
  simp only [Has] at h
  obtain ⟨b, e⟩ := h
  cases e
  exact ⟨b, rfl⟩
theorem has_Sint {x : RV} (h : Has (.sl (.int .i64)) [x]) : ∃ l, SlI l x ∧ l.length < 2 ^ 63 := by
  obtain ⟨v, l, e, s, hl⟩ := has_ints h
  cases e
  exact ⟨l, s, hl⟩
theorem parts_u8 : ∀ (n : Nat) (xs : List RV), Parts (Has (.int .u8)) n xs → ∃ l : List Int, xs = ints .u8 l ∧ l.length = n ∧ ∀ x ∈ l, 0 ≤ x ∧ x ≤ 255
  | 0, xs, h => ⟨[], by simp only [Parts] at h; rw [h]; rfl, rfl, by simp⟩
  | n + 1, xs, h => by
    obtain ⟨a, b, rfl, ⟨x, rfl, w⟩, h2⟩ := h
    obtain ⟨l, rfl, e, hl⟩ := parts_u8 n b h2
    have e1 : IntKind.min .u8 = 0 := by decide
    have e2 : IntKind.max .u8 = 255 := by decide
    refine ⟨x :: l, rfl, by simp [e], fun y hy => ?_⟩
    rcases List.mem_cons.1 hy with rfl | hy
    · simpa [Lit.wf, e1, e2] using w
    · exact hl y hy
theorem has_Su8 {x : RV} (h : Has (.sl (.int .u8)) [x]) : ∃ l, (Sl (ints .u8 l) l.length x ∧ ∀ y ∈ l, 0 ≤ y ∧ y ≤ 255) ∧ l.length < 2 ^ 63 := by
  unfold Has at h
  rcases h with e | ⟨cs, len, e, hm, h⟩
  · cases e
    exact ⟨[], ⟨Sl.nil, by simp⟩, by simp⟩
  · cases e
    obtain ⟨l, rfl, rfl, hl⟩ := parts_u8 _ _ h
    exact ⟨l, ⟨Sl.mk _ _ _, hl⟩, by have := maxLt; omega⟩
end Go.AM.T
/- What the functions compute (own work). -/
namespace Go.AM.T
open Go Go.AM
attribute [local simp] so_mov so_pick so_alloc so_box so_build so_slit so_load so_store so_nilc so_bin so_beq so_eqs so_eqn so_eqnl so_not so_conv so_s2b so_mkfn so_slcA so_padd so_fld so_idxA so_idxV so_idxT so_look so_mupd so_mkmap so_mksl so_ext so_app so_lenT so_lenM so_min so_max so_cpy so_clr so_mkif so_tass so_lenS so_idxS so_slc
attribute [local simp] dn_skip dn_label dn_ret dn_exit dn_scope dn_keep dn_reg dn_draw0 noSlots denE denEI stepE  sd_mov sd_pick sd_build sd_load sd_store sd_nilc sd_bin sd_beq sd_eqs sd_eqn sd_eqnl sd_not sd_conv sd_s2b sd_mkfn sd_slc sd_slcA sd_padd sd_fld sd_idxS sd_idxA sd_idxV sd_idxT sd_look sd_mupd sd_ext sd_app sd_lenS sd_lenT sd_lenM sd_min sd_max sd_mkif sd_tass sd_call sd_slit dn_seq dn_cond dn_block dn_loop kn_call denIs denI denOp wants ev eget putD binL enumFrom AV.bool? AV.int? ekeep evs evp runV fin runDefs resAll resOf tupOf unit AV.cells okV ok1 Value.oneCell' fill setN rcells rs_nil rs_cons load_own load_cons mkAgg_rs storeN jmpOut
attribute [local simp] dvL dv1t dvAt mkAgg2 dv0 dv1 dv2 dv3 dv4 dv5 dv6 dv7 dv8 dv9 dv10 dvA dvN dvAll C_fz fzr
/-- A slice that its function grows, made empty. -/
inductive GE (H : List Blk) (L : Nat) (T : TypeId) (cs : List RV) : AV → Prop
  | nil : cs = [] → GE H L T cs (.r (.sl [] 0 (some 0)))
  | osl (B g : Nat) : L ≤ B → H[B]? = some (.cells (rs cs) T g) → 0 < cs.length → GE H L T cs (.osl B g 0 cs.length 1 none)
theorem GE.app {H : List Blk} {L : Nat} {T : TypeId} {cs : List RV} {pv : AV} (h : GE H L T cs pv) (W : List Nat) (bytes : Nat) (x : RV) (hL : L ≤ H.length) (hr : roomOk (cs.length + 1) bytes) :
    ∃ pv' H' W', appendA { h := H, wr := W } T 1 bytes pv (.r (.sl [x] 1 (some 1))) = some (pv', { h := H', wr := W' }) ∧ GE H' L T (cs ++ [x]) pv' ∧ H'.take L = H.take L ∧ H.length ≤ H'.length ∧ ∀ y ∈ W', y ∈ W ∨ L ≤ y := by
  cases h with
  | nil e =>
    subst e
    refine ⟨.osl H.length 0 0 1 1 none, H ++ [.cells [.r x] T 0], W, ?_, GE.osl H.length 0 hL (by simp [rs]) (by simp), List.take_append_of_le_length hL, by simp, fun y hy => .inl hy⟩
    unfold appendA
    simp [slCells, rs]
    simpa using hr
  | osl B g h1 h2 h3 =>
    have hB := getElem?_lt h2
    refine ⟨.osl B (g + 1) 0 (cs.length + 1) 1 none, H.set B (.cells (rs (cs ++ [x])) T (g + 1)), B :: W, ?_, ?_, List.take_set_of_le h1, by simp, ?_⟩
    · unfold appendA
      simp only [slCells, List.length_singleton, Nat.one_mul, if_true, h2]
      rw [if_pos ⟨trivial, trivial, trivial, by rw [rs_len]; omega, hr⟩, if_neg (by omega), List.take_of_length_le (by rw [rs_len]; omega), rs_append]
    · have := GE.osl (H := H.set B (.cells (rs (cs ++ [x])) T (g + 1))) (L := L) (T := T) (cs := cs ++ [x]) B (g + 1) h1 (List.getElem?_set_self hB) (by simp)
      simpa using this
    · intro y hy
      rcases List.mem_cons.1 hy with rfl | hy
      · exact .inr h1
      · exact .inl hy
def gpV (cs : List RV) : RV := if cs = [] then .sl [] 0 (some 0) else .sl cs cs.length none
theorem GE.fz {H : List Blk} {W : List Nat} {L : Nat} {T : TypeId} {cs : List RV} {pv : AV} (h : GE H L T cs pv) {k : Nat} (hk : cs.length + 1 < k) : Go.AM.fz { h := H, wr := W } L k pv = some (.r (gpV cs)) := by
  obtain ⟨k, rfl⟩ : ∃ j, k = j + 1 := ⟨k - 1, by omega⟩
  unfold gpV
  cases h with
  | nil e => rw [if_pos e]; rfl
  | osl B g h1 h2 h3 =>
    rw [if_neg (by intro e; rw [e] at h3; simp at h3)]
    exact fz_osl (t := T) h2 h1 (by omega) (by omega)
theorem Sl.gpV (l : List Int) : SlI l (gpV (ints .i64 l)) := by
  unfold T.gpV
  split
  · rename_i e
    have : l = [] := by cases l with
      | nil => rfl
      | cons x l => simp [ints] at e
    subst this; exact Sl.mk _ _ _
  · rw [ints_len]; exact Sl.mk _ _ _
/-- A teller's list in which a member is, or is not. -/
def toldL (l : List Int) (x : Int) (b : Bool) : List Int := l.filter (fun y => decide (y < x)) ++ (if b then [x] else []) ++ l.filter (fun y => decide (x < y))
theorem told_low {l : List Int} {v : RV} (hl : SlI l v) (hb : l.length ≤ 45) (x : Int) (b : Bool) (L : Nat) : ∀ (k i : Nat) (out : List Int) (ov : AV) (s : St), i + k = l.length → out.length ≤ i → ekeep [0, 1, 2, 7, 8] s.env = [(0, .r v), (1, i64 x), (2, bo b), (7, ov), (8, i64 i)] → GE s.m.h L ty_int (ints .i64 out) ov → L ≤ s.m.h.length → s.defs = [] →
    ∃ s' ov', Loop C [0, 1, 2, 7, 8] l_law07_told_1 s (.exit 0) s' ∧ GE s'.m.h L ty_int (ints .i64 (out ++ (l.drop i).filter fun y => decide (y < x))) ov' ∧ s'.m.h.take L = s.m.h.take L ∧ L ≤ s'.m.h.length ∧ (∀ y ∈ s'.m.wr, y ∈ s.m.wr ∨ L ≤ y) ∧ s'.defs = [] ∧ ekeep [0, 1, 2, 7] s'.env = [(0, .r v), (1, i64 x), (2, bo b), (7, ov')] := by
  intro k
  induction k with
  | zero =>
    intro i out ov s hi ho he hG hL hd
    have e0 : ((i : Int) < (l.length : Int)) = False := eq_false (by omega)
    have : l.drop i = [] := List.drop_eq_nil_of_le (by omega)
    rw [this]
    exact ⟨_, ov, .stop (.of fun K => by rw [he]; simp [l_law07_told_1, hl.len, e0]; rfl) (by simp), by simpa using hG, by simp, by simpa using hL, by simp; exact fun y hy => .inl hy, by simp [hd], by simp⟩
  | succ k ih =>
    intro i out ov s hi ho he hG hL hd
    obtain ⟨M, hMM⟩ : ∃ M, M = s.m := ⟨_, rfl⟩
    obtain ⟨H, W⟩ := M
    rw [← hMM] at hG hL
    simp only at hG hL
    rw [← hMM]
    simp only
    have hil : i < l.length := by omega
    have e0 : ((i : Int) < (l.length : Int)) = True := eq_true (by omega)
    have w1 : IntKind.wrap .i64 ((i : Int) + 1) = i + 1 := by rw [w64] <;> omega
    have hdrop : l.drop i = l[i] :: l.drop (i + 1) := List.drop_eq_getElem_cons hil
    have hsm : ∀ H' W', ({ h := H', wr := W' } : Mem).h = H' := fun _ _ => rfl
    by_cases hx : l[i] < x
    · have e1 := eq_true hx
      obtain ⟨pv', H', W', hA, hG', ht, hlen, hw⟩ := hG.app W 8 (.lit (.int .i64 l[i])) hL (by rw [ints_len]; exact ⟨by omega, by omega⟩)
      have hrd : ∃ s1, Den C l_law07_told_1 { s with env := ekeep [0, 1, 2, 7, 8] s.env } .norm s1 ∧ ekeep [0, 1, 2, 7, 8] s1.env = [(0, .r v), (1, i64 x), (2, bo b), (7, pv'), (8, i64 (i + 1 : Nat))] ∧ s1.m = { h := H', wr := W' } ∧ s1.defs = [] :=
        ⟨_, .of fun K => by
          rw [he]
          simp [l_law07_told_1, ← hMM, hl.len, hl.at hil, load_ints hil, e0, e1, w1, allR, AV.toR, repl, hA]
          rfl, by simp, by simp, by simp [hd]⟩
      obtain ⟨s1, r1, r2, r3, r4⟩ := hrd
      obtain ⟨s', ov', g1, g2, g3, g4, g5, g6, g7⟩ := ih (i + 1) (out ++ [l[i]]) pv' s1 (by omega) (by simp; omega) r2 (by rw [r3]; simpa [ints] using hG') (by rw [r3]; show L ≤ H'.length; omega) r4
      rw [r3] at g3 g5
      refine ⟨s', ov', .more r1 g1, ?_, by rw [g3]; exact ht, g4, fun y hy => ?_, g6, g7⟩
      · rw [hdrop, List.filter_cons, if_pos (by simpa using hx)]
        simpa using g2
      · rcases g5 y hy with h | h
        · rcases hw y h with h | h
          · exact .inl h
          · exact .inr h
        · exact .inr h
    · have e1 := eq_false hx
      have hrd : ∃ s1, Den C l_law07_told_1 { s with env := ekeep [0, 1, 2, 7, 8] s.env } .norm s1 ∧ ekeep [0, 1, 2, 7, 8] s1.env = [(0, .r v), (1, i64 x), (2, bo b), (7, ov), (8, i64 (i + 1 : Nat))] ∧ s1.m = { h := H, wr := W } ∧ s1.defs = [] :=
        ⟨_, .of fun K => by
          rw [he]
          simp [l_law07_told_1, ← hMM, hl.len, hl.at hil, load_ints hil, e0, e1, w1]
          rfl, by simp, by simp, by simp [hd]⟩
      obtain ⟨s1, r1, r2, r3, r4⟩ := hrd
      obtain ⟨s', ov', g1, g2, g3, g4, g5, g6, g7⟩ := ih (i + 1) out ov s1 (by omega) (by omega) r2 (by rw [r3]; exact hG) (by rw [r3]; exact hL) r4
      rw [r3] at g3 g5
      refine ⟨s', ov', .more r1 g1, ?_, g3, g4, fun y hy => g5 y hy, g6, g7⟩
      rw [hdrop, List.filter_cons, if_neg (by simpa using hx)]
      exact g2
theorem told_high {l : List Int} {v : RV} (hl : SlI l v) (hb : l.length ≤ 45) (x : Int) (L : Nat) : ∀ (k i : Nat) (out : List Int) (ov : AV) (s : St), i + k = l.length → out.length ≤ i + 50 → ekeep [0, 1, 7, 9] s.env = [(0, .r v), (1, i64 x), (7, ov), (9, i64 i)] → GE s.m.h L ty_int (ints .i64 out) ov → L ≤ s.m.h.length → s.defs = [] →
    ∃ s' ov', Loop C [0, 1, 7, 9] l_law07_told_0 s (.exit 2) s' ∧ GE s'.m.h L ty_int (ints .i64 (out ++ (l.drop i).filter fun y => decide (x < y))) ov' ∧ s'.m.h.take L = s.m.h.take L ∧ L ≤ s'.m.h.length ∧ (∀ y ∈ s'.m.wr, y ∈ s.m.wr ∨ L ≤ y) ∧ s'.defs = [] ∧ eget s'.env 7 = ov' := by
  intro k
  induction k with
  | zero =>
    intro i out ov s hi ho he hG hL hd
    have e0 : ((i : Int) < (l.length : Int)) = False := eq_false (by omega)
    have : l.drop i = [] := List.drop_eq_nil_of_le (by omega)
    rw [this]
    exact ⟨_, ov, .stop (.of fun K => by rw [he]; simp [l_law07_told_0, hl.len, e0]; rfl) (by simp), by simpa using hG, by simp, by simpa using hL, by simp; exact fun y hy => .inl hy, by simp [hd], by simp⟩
  | succ k ih =>
    intro i out ov s hi ho he hG hL hd
    obtain ⟨M, hMM⟩ : ∃ M, M = s.m := ⟨_, rfl⟩
    obtain ⟨H, W⟩ := M
    rw [← hMM] at hG hL
    simp only at hG hL
    rw [← hMM]
    simp only
    have hil : i < l.length := by omega
    have e0 : ((i : Int) < (l.length : Int)) = True := eq_true (by omega)
    have w1 : IntKind.wrap .i64 ((i : Int) + 1) = i + 1 := by rw [w64] <;> omega
    have hdrop : l.drop i = l[i] :: l.drop (i + 1) := List.drop_eq_getElem_cons hil
    by_cases hx : x < l[i]
    · have e1 := eq_true hx
      obtain ⟨pv', H', W', hA, hG', ht, hlen, hw⟩ := hG.app W 8 (.lit (.int .i64 l[i])) hL (by rw [ints_len]; exact ⟨by omega, by omega⟩)
      have hrd : ∃ s1, Den C l_law07_told_0 { s with env := ekeep [0, 1, 7, 9] s.env } .norm s1 ∧ ekeep [0, 1, 7, 9] s1.env = [(0, .r v), (1, i64 x), (7, pv'), (9, i64 (i + 1 : Nat))] ∧ s1.m = { h := H', wr := W' } ∧ s1.defs = [] :=
        ⟨_, .of fun K => by
          rw [he]
          simp [l_law07_told_0, ← hMM, hl.len, hl.at hil, load_ints hil, e0, e1, w1, allR, AV.toR, repl, hA]
          rfl, by simp, by simp, by simp [hd]⟩
      obtain ⟨s1, r1, r2, r3, r4⟩ := hrd
      obtain ⟨s', ov', g1, g2, g3, g4, g5, g6, g7⟩ := ih (i + 1) (out ++ [l[i]]) pv' s1 (by omega) (by simp; omega) r2 (by rw [r3]; simpa [ints] using hG') (by rw [r3]; show L ≤ H'.length; omega) r4
      rw [r3] at g3 g5
      refine ⟨s', ov', .more r1 g1, ?_, by rw [g3]; exact ht, g4, fun y hy => ?_, g6, g7⟩
      · rw [hdrop, List.filter_cons, if_pos (by simpa using hx)]
        simpa using g2
      · rcases g5 y hy with h | h
        · rcases hw y h with h | h
          · exact .inl h
          · exact .inr h
        · exact .inr h
    · have e1 := eq_false hx
      have hrd : ∃ s1, Den C l_law07_told_0 { s with env := ekeep [0, 1, 7, 9] s.env } .norm s1 ∧ ekeep [0, 1, 7, 9] s1.env = [(0, .r v), (1, i64 x), (7, ov), (9, i64 (i + 1 : Nat))] ∧ s1.m = { h := H, wr := W } ∧ s1.defs = [] :=
        ⟨_, .of fun K => by
          rw [he]
          simp [l_law07_told_0, ← hMM, hl.len, hl.at hil, load_ints hil, e0, e1, w1]
          rfl, by simp, by simp, by simp [hd]⟩
      obtain ⟨s1, r1, r2, r3, r4⟩ := hrd
      obtain ⟨s', ov', g1, g2, g3, g4, g5, g6, g7⟩ := ih (i + 1) out ov s1 (by omega) (by omega) r2 (by rw [r3]; exact hG) (by rw [r3]; exact hL) r4
      rw [r3] at g3 g5
      refine ⟨s', ov', .more r1 g1, ?_, g3, g4, fun y hy => g5 y hy, g6, g7⟩
      rw [hdrop, List.filter_cons, if_neg (by simpa using hx)]
      exact g2
theorem told_spec {l : List Int} {v : RV} (hl : SlI l v) (hb : l.length ≤ 45) (x : Int) (b : Bool) (m : Mem) : CallR C (fnv fn_law07_told) [.r v, i64 x, bo b] m (.ret (.r (gpV (ints .i64 (toldL l x b)))) m) := by
  obtain ⟨s1, ov1, l1, g1, t1, q1, w1, d1, e1⟩ := told_low hl hb x b m.h.length l.length 0 [] (.r (.sl [] 0 (some 0))) { env := [(8, i64 0), (0, .r v), (1, i64 x), (2, bo b), (7, .r (.sl [] 0 (some 0)))], m := { h := m.h } } (by omega) (by simp) (by simp) (.nil rfl) (Nat.le_refl _) rfl
  obtain ⟨c1, k1⟩ := l1.get
  have e1' : eget s1.env 0 = .r v ∧ eget s1.env 1 = i64 x ∧ eget s1.env 2 = bo b ∧ eget s1.env 7 = ov1 := by simpa [ekeep] using e1
  obtain ⟨f0, f1, f2, f7⟩ := e1'
  simp only [List.drop_zero, List.nil_append] at g1
  obtain ⟨low, hlow⟩ : ∃ low, low = l.filter fun y => decide (y < x) := ⟨_, rfl⟩
  rw [← hlow] at g1
  have hlowl : low.length ≤ 45 := by rw [hlow]; exact Nat.le_trans (List.length_filter_le _ _) hb
  obtain ⟨M, hM⟩ : ∃ M, M = s1.m := ⟨_, rfl⟩
  obtain ⟨H, W⟩ := M
  rw [← hM] at g1 t1 q1 w1
  simp only at g1 t1 q1 w1
  have hfin : ∀ (mid : List Int) (ov : AV) (H2 : List Blk) (W2 : List Nat), mid.length ≤ 46 → GE H2 m.h.length ty_int (ints .i64 mid) ov → m.h.length ≤ H2.length → H2.take m.h.length = m.h → (∀ y ∈ W2, m.h.length ≤ y) → ∀ st : St, st.m = { h := H2, wr := W2 } → st.defs = [] → eget st.env 0 = .r v → eget st.env 1 = i64 x → eget st.env 7 = ov → eget st.env 9 = i64 0 →
      ∃ (s' : St) (c : Nat), (∀ k, c ≤ k → goLoop (Kn C k) [0, 1, 7, 9] l_law07_told_0 st = some (.exit 2, s')) ∧ s'.defs = [] ∧ s'.m.h.take m.h.length = m.h ∧ (∀ y ∈ s'.m.wr, m.h.length ≤ y) ∧ fz s'.m m.h.length 1000000 (eget s'.env 7) = some (.r (gpV (ints .i64 (mid ++ l.filter fun y => decide (x < y))))) := by
    intro mid ov H2 W2 hm hG hL ht hw st qm qd q0 q1 q7 q9
    obtain ⟨s', ov', g1, g2, g3, g4, g5, g6, g7⟩ := told_high hl hb x m.h.length l.length 0 mid ov st (by omega) (by omega) (by simp [ekeep, q0, q1, q7, q9]) (by rw [qm]; exact hG) (by rw [qm]; exact hL) qd
    rw [qm] at g3 g5
    obtain ⟨c, k⟩ := g1.get
    refine ⟨s', c, k, g6, g3.trans ht, fun y hy => ?_, ?_⟩
    · rcases g5 y hy with h | h
      · exact hw y h
      · exact h
    · rw [g7]
      rw [List.drop_zero] at g2
      have := g2.fz (W := s'.m.wr) (k := 1000000) (by
        rw [ints_len, List.length_append]
        have := List.length_filter_le (fun y => decide (x < y)) l
        omega)
      exact this
  cases b with
  | false =>
    obtain ⟨s', c, k2, d2, t2, w2, z2⟩ := hfin low ov1 H W (by omega) g1 q1 (by rw [t1]; simp) (fun y hy => by rcases w1 y hy with h | h; (· cases h); exact h) { s1 with env := (9, i64 0) :: (30, bo false) :: s1.env, m := { h := H, wr := W }, defs := [] } rfl rfl (by simpa [eget] using f0) (by simpa [eget] using f1) (by simpa [eget] using f7) (by simp [eget])
    have hres : toldL l x false = low ++ l.filter fun y => decide (x < y) := by rw [hlow]; simp [toldL]
    rw [hres]
    refine CallR.eval (m1 := s'.m) rfl rfl prog_law07_told rfl ⟨c1 + c, fun k hk => ?_⟩ t2 w2
    have k2 := k2 k (by omega)
    have hM' : s1.m = { h := H, wr := W } := hM.symm
    simp [a_law07_told, allR, repl, k1 k (by omega), d1, f0, f1, f2, f7, hM', k2, d2, z2]
  | true =>
    obtain ⟨pv', H2, W2, hA, hG', ht, hlen, hw⟩ := g1.app W 8 (.lit (.int .i64 x)) q1 (by rw [ints_len]; exact ⟨by omega, by omega⟩)
    have hG2 : GE H2 m.h.length ty_int (ints .i64 (low ++ [x])) pv' := by simpa [ints] using hG'
    obtain ⟨s', c, k2, d2, t2, w2, z2⟩ := hfin (low ++ [x]) pv' H2 W2 (by simp; omega) hG2 (by omega) (by rw [ht, t1]; simp) (fun y hy => by
      rcases hw y hy with h | h
      · rcases w1 y h with h | h
        · cases h
        · exact h
      · exact h) { s1 with env := [(9, i64 0), (0, .r v), (1, i64 x), (7, pv')], m := { h := H2, wr := W2 }, defs := [] } rfl rfl (by simp [eget]) (by simp [eget]) (by simp [eget]) (by simp [eget])
    have hres : toldL l x true = low ++ [x] ++ l.filter fun y => decide (x < y) := by rw [hlow]; simp [toldL]
    rw [hres]
    refine CallR.eval (m1 := s'.m) rfl rfl prog_law07_told rfl ⟨c1 + c, fun k hk => ?_⟩ t2 w2
    have k2 := k2 k (by omega)
    have hM' : s1.m = { h := H, wr := W } := hM.symm
    simp [a_law07_told, allR, AV.toR, repl, k1 k (by omega), d1, f0, f1, f2, f7, hM', hA, k2, d2, z2]
end Go.AM.T
/- What the functions compute (own work). -/
namespace Go.AM.T
open Go Go.AM
attribute [local simp] so_mov so_pick so_alloc so_box so_build so_slit so_load so_store so_nilc so_bin so_beq so_eqs so_eqn so_eqnl so_not so_conv so_s2b so_mkfn so_slcA so_padd so_fld so_idxA so_idxV so_idxT so_look so_mupd so_mkmap so_mksl so_ext so_app so_lenT so_lenM so_min so_max so_cpy so_clr so_mkif so_tass so_lenS so_idxS so_slc
attribute [local simp] dn_skip dn_label dn_ret dn_exit dn_scope dn_keep dn_reg dn_draw0 noSlots denE denEI stepE  sd_mov sd_pick sd_build sd_load sd_store sd_nilc sd_bin sd_beq sd_eqs sd_eqn sd_eqnl sd_not sd_conv sd_s2b sd_mkfn sd_slc sd_slcA sd_padd sd_fld sd_idxS sd_idxA sd_idxV sd_idxT sd_look sd_mupd sd_ext sd_app sd_lenS sd_lenT sd_lenM sd_min sd_max sd_mkif sd_tass sd_call sd_slit dn_seq dn_cond dn_block dn_loop kn_call denIs denI denOp wants ev eget putD binL enumFrom AV.bool? AV.int? ekeep evs evp runV fin runDefs resAll resOf tupOf unit AV.cells okV ok1 Value.oneCell' fill setN rcells rs_nil rs_cons load_own load_cons mkAgg_rs storeN jmpOut
attribute [local simp] dvL dv1t dvAt mkAgg2 dv0 dv1 dv2 dv3 dv4 dv5 dv6 dv7 dv8 dv9 dv10 dvA dvN dvAll C_fz fzr
/-- The same division, but that its members may have fewer votes. -/
structure SubD (e d : Div) : Prop where
  n : e.n = d.n
  pairs : e.pairs = d.pairs
  proxies : e.proxies = d.proxies
  rule : e.rule = d.rule
  need : e.need = d.need
  quorum : e.quorum = d.quorum
  tie : e.tie = d.tie
  may : ∀ x v, v ∈ may e x → v ∈ may d x
section
variable {e d : Div}
theorem SubD.nums (h : SubD e d) (t : List Int) : numsL e t = numsL d t := by
  have h1 : memStep e t = memStep d t := by funext n i; unfold memStep; rw [h.pairs]
  have h2 : proxStep e t = proxStep d t := by funext n x; unfold proxStep; rw [h.pairs]
  unfold numsL numsM
  rw [h1, h2, h.proxies, h.n]
theorem SubD.outcome (h : SubD e d) (n : Int × Int) : outcomeI e n = outcomeI d n := by
  unfold outcomeI carriedB
  rw [h.quorum, h.rule, h.need, h.tie]
theorem SubD.rt (h : SubD e d) : ∀ (r : Nat) (b u : List Int), u ∈ rtF e r b → u ∈ rtF d r b
  | 0, b, u, hu => hu
  | r + 1, b, u, hu => by
    unfold rtF at hu ⊢
    obtain ⟨v, hv, hu⟩ := List.mem_flatMap.1 hu
    exact List.mem_flatMap.2 ⟨v, h.may _ _ hv, h.rt r _ u hu⟩
theorem SubD.rtOf (h : SubD e d) {u : List Int} (hu : u ∈ rtOf e) : u ∈ T.rtOf d := by
  unfold T.rtOf at hu ⊢
  rw [h.n] at hu
  exact h.rt _ _ _ hu
theorem SubD.len (h : SubD e d) (x : Int) : (T.may e x).length ≤ (T.may d x).length := by
  rw [← may_filter e, ← may_filter d, ← List.countP_eq_length_filter, ← List.countP_eq_length_filter]
  refine List.countP_mono_left fun v _ hv => ?_
  have := h.may x v (by simpa using hv)
  simpa using this
theorem SubD.doubts (h : SubD e d) : (doubtsL e).length ≤ (doubtsL d).length := by
  unfold doubtsL
  rw [List.length_map, List.length_map, ← List.countP_eq_length_filter, ← List.countP_eq_length_filter, h.n]
  refine List.countP_mono_left fun i _ hi => ?_
  have := h.len i
  simp at hi ⊢
  omega
theorem SubD.open_ (h : SubD e d) (ho : openI d = 0) (hr : rightB e = true) : openI e = if (clashB e).isSome then 9 else 0 := by
  have hd := (openI0 ho).2.2
  have := h.doubts
  unfold openI faultI
  rw [if_pos hr]
  by_cases hs : (clashB e).isSome = true
  · rw [if_pos hs, if_neg (by decide)]
  · rw [if_neg hs, if_pos rfl, if_neg (by omega)]
theorem SubD.al (h : SubD e d) (hn : d.n ≤ 40) {o : Int} (ho : o ∈ alS e) : o ∈ alS d := by
  unfold alS at ho ⊢
  rw [List.mem_filter] at ho ⊢
  refine ⟨ho.1, ?_⟩
  have h2 := ho.2
  rw [alL_rt (by rw [h.n]; exact hn), List.any_eq_true] at h2
  obtain ⟨u, hu, hx⟩ := h2
  rw [alL_rt hn, List.any_eq_true]
  exact ⟨u, h.rtOf hu, by rw [← h.nums, ← h.outcome]; exact hx⟩
/-- The bounds are bounds, and some number is at them. -/
theorem lw_le : ∀ (l : List (Int × Int)) (s : (Int × Int) × (Int × Int)),
    ((l.foldl lwStep s).1.1 ≤ s.1.1 ∧ s.1.2 ≤ (l.foldl lwStep s).1.2 ∧ (l.foldl lwStep s).2.1 ≤ s.2.1 ∧ s.2.2 ≤ (l.foldl lwStep s).2.2) ∧
    ∀ n ∈ l, (l.foldl lwStep s).1.1 ≤ n.1 ∧ n.1 ≤ (l.foldl lwStep s).1.2 ∧ (l.foldl lwStep s).2.1 ≤ n.2 ∧ n.2 ≤ (l.foldl lwStep s).2.2
  | [], s => by simp
  | n :: l, s => by
    have ih := lw_le l (lwStep s n)
    have h1 : (lwStep s n).1.1 ≤ s.1.1 ∧ s.1.2 ≤ (lwStep s n).1.2 ∧ (lwStep s n).2.1 ≤ s.2.1 ∧ s.2.2 ≤ (lwStep s n).2.2 ∧ (lwStep s n).1.1 ≤ n.1 ∧ n.1 ≤ (lwStep s n).1.2 ∧ (lwStep s n).2.1 ≤ n.2 ∧ n.2 ≤ (lwStep s n).2.2 := by
      unfold lwStep mn mx
      refine ⟨?_, ?_, ?_, ?_, ?_, ?_, ?_, ?_⟩ <;> simp only <;> split <;> omega
    rw [List.foldl_cons]
    refine ⟨by omega, fun x hx => ?_⟩
    rcases List.mem_cons.1 hx with rfl | hx
    · omega
    · exact ih.2 x hx
theorem lw_at : ∀ (l : List (Int × Int)) (s : (Int × Int) × (Int × Int)),
    ((l.foldl lwStep s).1.1 = s.1.1 ∨ ∃ n ∈ l, (l.foldl lwStep s).1.1 = n.1) ∧ ((l.foldl lwStep s).1.2 = s.1.2 ∨ ∃ n ∈ l, (l.foldl lwStep s).1.2 = n.1) ∧
    ((l.foldl lwStep s).2.1 = s.2.1 ∨ ∃ n ∈ l, (l.foldl lwStep s).2.1 = n.2) ∧ ((l.foldl lwStep s).2.2 = s.2.2 ∨ ∃ n ∈ l, (l.foldl lwStep s).2.2 = n.2)
  | [], s => by simp
  | n :: l, s => by
    have ih := lw_at l (lwStep s n)
    rw [List.foldl_cons]
    have h1 : ((lwStep s n).1.1 = s.1.1 ∨ (lwStep s n).1.1 = n.1) ∧ ((lwStep s n).1.2 = s.1.2 ∨ (lwStep s n).1.2 = n.1) ∧ ((lwStep s n).2.1 = s.2.1 ∨ (lwStep s n).2.1 = n.2) ∧ ((lwStep s n).2.2 = s.2.2 ∨ (lwStep s n).2.2 = n.2) := by
      unfold lwStep mn mx
      refine ⟨?_, ?_, ?_, ?_⟩ <;> simp only <;> split <;> simp
    obtain ⟨i1, i2, i3, i4⟩ := ih
    obtain ⟨j1, j2, j3, j4⟩ := h1
    refine ⟨?_, ?_, ?_, ?_⟩
    · rcases i1 with i | ⟨x, hx, i⟩
      · rcases j1 with j | j
        · exact .inl (i.trans j)
        · exact .inr ⟨n, by simp, i.trans j⟩
      · exact .inr ⟨x, by simp [hx], i⟩
    · rcases i2 with i | ⟨x, hx, i⟩
      · rcases j2 with j | j
        · exact .inl (i.trans j)
        · exact .inr ⟨n, by simp, i.trans j⟩
      · exact .inr ⟨x, by simp [hx], i⟩
    · rcases i3 with i | ⟨x, hx, i⟩
      · rcases j3 with j | j
        · exact .inl (i.trans j)
        · exact .inr ⟨n, by simp, i.trans j⟩
      · exact .inr ⟨x, by simp [hx], i⟩
    · rcases i4 with i | ⟨x, hx, i⟩
      · rcases j4 with j | j
        · exact .inl (i.trans j)
        · exact .inr ⟨n, by simp, i.trans j⟩
      · exact .inr ⟨x, by simp [hx], i⟩
/-- All numbers are in the bounds. -/
theorem bn_in (ho : openI d = 0) {u : List Int} (hu : u ∈ T.rtOf d) : (bnL d).a.1 ≤ (numsL d u).1 ∧ (numsL d u).1 ≤ (bnL d).a.2 ∧ (bnL d).b.1 ≤ (numsL d u).2 ∧ (numsL d u).2 ≤ (bnL d).b.2 := by
  obtain ⟨h1, h2⟩ := bnL_lw ho
  rw [h1, h2]
  have hm : numsL d u ∈ (T.rtOf d).map (numsL d) := List.mem_map_of_mem hu
  cases hl : (T.rtOf d).map (numsL d) with
  | nil => rw [hl] at hm; cases hm
  | cons n l =>
    rw [hl] at hm
    have := lw_le l (lw0 n)
    unfold lwL
    rcases List.mem_cons.1 hm with h | h
    · rw [h]; simp only [lw0] at this ⊢; omega
    · exact this.2 _ h
theorem bn_at (ho : openI d = 0) : (∃ u ∈ T.rtOf d, (bnL d).a.1 = (numsL d u).1) ∧ (∃ u ∈ T.rtOf d, (bnL d).a.2 = (numsL d u).1) ∧ (∃ u ∈ T.rtOf d, (bnL d).b.1 = (numsL d u).2) ∧ (∃ u ∈ T.rtOf d, (bnL d).b.2 = (numsL d u).2) := by
  obtain ⟨h1, h2⟩ := bnL_lw ho
  have hne := rtOf_ne ho
  rw [h1, h2]
  cases hr : T.rtOf d with
  | nil => exact absurd hr hne
  | cons u us =>
    rw [List.map_cons]
    unfold lwL
    obtain ⟨i1, i2, i3, i4⟩ := lw_at (us.map (numsL d)) (lw0 (numsL d u))
    refine ⟨?_, ?_, ?_, ?_⟩
    · rcases i1 with i | ⟨x, hx, i⟩
      · exact ⟨u, by simp, i⟩
      · obtain ⟨w, hw, rfl⟩ := List.mem_map.1 hx
        exact ⟨w, by simp [hw], i⟩
    · rcases i2 with i | ⟨x, hx, i⟩
      · exact ⟨u, by simp, i⟩
      · obtain ⟨w, hw, rfl⟩ := List.mem_map.1 hx
        exact ⟨w, by simp [hw], i⟩
    · rcases i3 with i | ⟨x, hx, i⟩
      · exact ⟨u, by simp, i⟩
      · obtain ⟨w, hw, rfl⟩ := List.mem_map.1 hx
        exact ⟨w, by simp [hw], i⟩
    · rcases i4 with i | ⟨x, hx, i⟩
      · exact ⟨u, by simp, i⟩
      · obtain ⟨w, hw, rfl⟩ := List.mem_map.1 hx
        exact ⟨w, by simp [hw], i⟩
theorem SubD.bn (h : SubD e d) (ho : openI d = 0) (ho' : openI e = 0) : (bnL d).a.1 ≤ (bnL e).a.1 ∧ (bnL e).a.2 ≤ (bnL d).a.2 ∧ (bnL d).b.1 ≤ (bnL e).b.1 ∧ (bnL e).b.2 ≤ (bnL d).b.2 := by
  obtain ⟨⟨u1, m1, e1⟩, ⟨u2, m2, e2⟩, ⟨u3, m3, e3⟩, ⟨u4, m4, e4⟩⟩ := bn_at ho'
  rw [e1, e2, e3, e4, h.nums, h.nums, h.nums, h.nums]
  have b1 := bn_in ho (h.rtOf m1)
  have b2 := bn_in ho (h.rtOf m2)
  have b3 := bn_in ho (h.rtOf m3)
  have b4 := bn_in ho (h.rtOf m4)
  omega
end
end Go.AM.T
/- What the functions compute (own work). -/
namespace Go.AM.T
open Go Go.AM
attribute [local simp] so_mov so_pick so_alloc so_box so_build so_slit so_load so_store so_nilc so_bin so_beq so_eqs so_eqn so_eqnl so_not so_conv so_s2b so_mkfn so_slcA so_padd so_fld so_idxA so_idxV so_idxT so_look so_mupd so_mkmap so_mksl so_ext so_app so_lenT so_lenM so_min so_max so_cpy so_clr so_mkif so_tass so_lenS so_idxS so_slc
attribute [local simp] dn_skip dn_label dn_ret dn_exit dn_scope dn_keep dn_reg dn_draw0 noSlots denE denEI stepE  sd_mov sd_pick sd_build sd_load sd_store sd_nilc sd_bin sd_beq sd_eqs sd_eqn sd_eqnl sd_not sd_conv sd_s2b sd_mkfn sd_slc sd_slcA sd_padd sd_fld sd_idxS sd_idxA sd_idxV sd_idxT sd_look sd_mupd sd_ext sd_app sd_lenS sd_lenT sd_lenM sd_min sd_max sd_mkif sd_tass sd_call sd_slit dn_seq dn_cond dn_block dn_loop kn_call denIs denI denOp wants ev eget putD binL enumFrom AV.bool? AV.int? ekeep evs evp runV fin runDefs resAll resOf tupOf unit AV.cells okV ok1 Value.oneCell' fill setN rcells rs_nil rs_cons load_own load_cons mkAgg_rs storeN jmpOut
attribute [local simp] dvL dv1t dvAt mkAgg2 dv0 dv1 dv2 dv3 dv4 dv5 dv6 dv7 dv8 dv9 dv10 dvA dvN dvAll C_fz fzr
theorem rising_pw : ∀ l : List Int, risingB l = true ↔ l.Pairwise (· < ·)
  | [] => by simp [risingB]
  | [a] => by simp [risingB]
  | a :: b :: r => by
    rw [risingB, Bool.and_eq_true, decide_eq_true_eq, rising_pw (b :: r), List.pairwise_cons (a := a)]
    constructor
    · rintro ⟨h1, h2⟩
      refine ⟨fun x hx => ?_, h2⟩
      rcases List.mem_cons.1 hx with rfl | hx
      · exact h1
      · have := (List.pairwise_cons.1 h2).1 x hx; omega
    · rintro ⟨h1, h2⟩
      exact ⟨h1 b (by simp), h2⟩
theorem told_mem {l : List Int} {x y : Int} {b : Bool} : y ∈ toldL l x b ↔ (y ∈ l ∧ y ≠ x) ∨ (y = x ∧ b = true) := by
  unfold toldL
  simp only [List.mem_append, List.mem_filter, decide_eq_true_eq]
  constructor
  · rintro ((⟨h1, h2⟩ | h) | ⟨h1, h2⟩)
    · exact .inl ⟨h1, by omega⟩
    · split at h
      · rename_i hb
        simp at h; exact .inr ⟨h, hb⟩
      · cases h
    · exact .inl ⟨h1, by omega⟩
  · rintro (⟨h1, h2⟩ | ⟨rfl, hb⟩)
    · by_cases h : y < x
      · exact .inl (.inl ⟨h1, h⟩)
      · exact .inr ⟨h1, by omega⟩
    · exact .inl (.inr (by rw [if_pos hb]; simp))
theorem told_contains (l : List Int) (x y : Int) (b : Bool) : (toldL l x b).contains y = if y = x then b else l.contains y := by
  by_cases h : y = x
  · subst h
    rw [if_pos rfl, Bool.eq_iff_iff, List.contains_iff_mem, told_mem]
    simp
  · rw [if_neg h, Bool.eq_iff_iff, List.contains_iff_mem, List.contains_iff_mem, told_mem]
    simp [h]
theorem told_list {n : Int} {l : List Int} {x : Int} (b : Bool) (hl : listB n l = true) (hx : 0 ≤ x ∧ x < n) : listB n (toldL l x b) = true := by
  unfold listB at hl ⊢
  rw [Bool.and_eq_true, List.all_eq_true, rising_pw] at hl ⊢
  obtain ⟨h1, h2⟩ := hl
  refine ⟨fun y hy => ?_, ?_⟩
  · rcases told_mem.1 hy with ⟨h, _⟩ | ⟨rfl, _⟩
    · exact h1 y h
    · unfold memB; simp; omega
  · unfold toldL
    rw [List.pairwise_append, List.pairwise_append]
    refine ⟨⟨h2.filter _, ?_, fun y hy z hz => ?_⟩, h2.filter _, fun y hy z hz => ?_⟩
    · split <;> simp
    · have hy := (List.mem_filter.1 hy).2
      split at hz
      · simp at hz hy; omega
      · cases hz
    · have hz := (List.mem_filter.1 hz).2
      rcases List.mem_append.1 hy with hy | hy
      · have hy := (List.mem_filter.1 hy).2
        simp at hy hz; omega
      · split at hy
        · simp at hy hz; omega
        · cases hy
theorem told_len (l : List Int) (x : Int) (b : Bool) : (toldL l x b).length ≤ l.length + 1 := by
  unfold toldL
  have h : (l.filter fun y => decide (y < x)).length + (l.filter fun y => decide (x < y)).length ≤ l.length := by
    induction l with
    | nil => simp
    | cons y l ih =>
      rw [List.filter_cons, List.filter_cons, List.length_cons]
      split <;> split <;> simp_all <;> omega
  simp only [List.length_append]
  split <;> simp <;> omega
/-- A teller learns of a member what the other one says. -/
def knownD (d : Div) (aye : Bool) (k : Bool) (x : Int) : Div :=
  if aye then (if k then { d with a1 := toldL d.a1 x (d.a0.contains x) } else { d with a0 := toldL d.a0 x (d.a1.contains x) })
  else (if k then { d with n1 := toldL d.n1 x (d.n0.contains x) } else { d with n0 := toldL d.n0 x (d.n1.contains x) })
theorem on_swap (l0 l1 : List Int) (x : Int) : onB l0 l1 x = onB l1 l0 x := by unfold onB; omega
theorem votes_ay (a b : Bool) (no : Int) (hno : no = 0 ∨ no = 1 ∨ no = 2) : ∀ v ∈ votesL (b2i b + b2i b) no, v ∈ votesL (b2i a + b2i b) no := by
  rcases hno with rfl | rfl | rfl <;> cases a <;> cases b <;> decide
theorem votes_no (a b : Bool) (ay : Int) (hay : ay = 0 ∨ ay = 1 ∨ ay = 2) : ∀ v ∈ votesL ay (b2i b + b2i b), v ∈ votesL ay (b2i a + b2i b) := by
  rcases hay with rfl | rfl | rfl <;> cases a <;> cases b <;> decide
theorem votes_ay' (a b : Bool) (no : Int) (hno : no = 0 ∨ no = 1 ∨ no = 2) : ∀ v ∈ votesL (b2i a + b2i a) no, v ∈ votesL (b2i a + b2i b) no := by
  rcases hno with rfl | rfl | rfl <;> cases a <;> cases b <;> decide
theorem votes_no' (a b : Bool) (ay : Int) (hay : ay = 0 ∨ ay = 1 ∨ ay = 2) : ∀ v ∈ votesL ay (b2i a + b2i a), v ∈ votesL ay (b2i a + b2i b) := by
  rcases hay with rfl | rfl | rfl <;> cases a <;> cases b <;> decide
theorem known_sub (d : Div) (aye k : Bool) (x : Int) : SubD (knownD d aye k x) d := by
  have hm : ∀ y v, v ∈ may (knownD d aye k x) y → v ∈ may d y := by
    intro y v hv
    have hn := onB_cases d.n0 d.n1 y
    have ha := onB_cases d.a0 d.a1 y
    cases aye <;> cases k
    all_goals
      simp only [knownD, if_true, Bool.false_eq_true, if_false] at hv
      unfold may at hv ⊢
      simp only [onB] at hv hn ha ⊢
      rw [told_contains] at hv
      by_cases h : y = x
      · subst h
        rw [if_pos rfl] at hv
        first
          | exact votes_no _ _ _ ha v hv
          | exact votes_no' _ _ _ ha v hv
          | exact votes_ay _ _ _ hn v hv
          | exact votes_ay' _ _ _ hn v hv
      · rw [if_neg h] at hv; exact hv
  cases aye <;> cases k <;> exact ⟨rfl, rfl, rfl, rfl, rfl, rfl, rfl, hm⟩
theorem known_right {d : Div} (aye k : Bool) {x : Int} (hr : rightB d = true) (hx : 0 ≤ x ∧ x < d.n) : rightB (knownD d aye k x) = true := by
  unfold rightB listsB at hr ⊢
  simp only [Bool.and_eq_true] at hr
  obtain ⟨⟨⟨h1, ⟨h2, h3⟩, h4, h5⟩, h6⟩, h7⟩ := hr
  cases aye <;> cases k
  all_goals
    simp only [knownD, if_true, Bool.false_eq_true, if_false]
    simp only [Bool.and_eq_true]
  · exact ⟨⟨⟨h1, ⟨h2, told_list _ h3 hx⟩, h4, h5⟩, h6⟩, h7⟩
  · exact ⟨⟨⟨h1, ⟨h2, h3⟩, h4, told_list _ h5 hx⟩, h6⟩, h7⟩
  · exact ⟨⟨⟨h1, ⟨told_list _ h2 hx, h3⟩, h4, h5⟩, h6⟩, h7⟩
  · exact ⟨⟨⟨h1, ⟨h2, h3⟩, told_list _ h4 hx, h5⟩, h6⟩, h7⟩
end Go.AM.T
/- What the functions compute (own work). -/
namespace Go.AM.T
open Go Go.AM
attribute [local simp] so_mov so_pick so_alloc so_box so_build so_slit so_load so_store so_nilc so_bin so_beq so_eqs so_eqn so_eqnl so_not so_conv so_s2b so_mkfn so_slcA so_padd so_fld so_idxA so_idxV so_idxT so_look so_mupd so_mkmap so_mksl so_ext so_app so_lenT so_lenM so_min so_max so_cpy so_clr so_mkif so_tass so_lenS so_idxS so_slc
attribute [local simp] dn_skip dn_label dn_ret dn_exit dn_scope dn_keep dn_reg dn_draw0 noSlots denE denEI stepE  sd_mov sd_pick sd_build sd_load sd_store sd_nilc sd_bin sd_beq sd_eqs sd_eqn sd_eqnl sd_not sd_conv sd_s2b sd_mkfn sd_slc sd_slcA sd_padd sd_fld sd_idxS sd_idxA sd_idxV sd_idxT sd_look sd_mupd sd_ext sd_app sd_lenS sd_lenT sd_lenM sd_min sd_max sd_mkif sd_tass sd_call sd_slit dn_seq dn_cond dn_block dn_loop kn_call denIs denI denOp wants ev eget putD binL enumFrom AV.bool? AV.int? ekeep evs evp runV fin runDefs resAll resOf tupOf unit AV.cells okV ok1 Value.oneCell' fill setN rcells rs_nil rs_cons load_own load_cons mkAgg_rs storeN jmpOut
attribute [local simp] dvL dv1t dvAt mkAgg2 dv0 dv1 dv2 dv3 dv4 dv5 dv6 dv7 dv8 dv9 dv10 dvA dvN dvAll C_fz fzr
section
variable {l o : List Int} {v w : RV}
theorem known_inner (hl : Sl (ints .u8 l) l.length v) (ho : Sl (ints .u8 o) o.length w) (hb : l.length < 2 ^ 62) {i : Nat} (hi : i < o.length) : ∀ (k j : Nat) (was : Bool) (s : St), j + k = l.length → ekeep [15, 22, 24, 25, 26] s.env = [(15, .r v), (22, .r w), (24, i64 i), (25, bo was), (26, i64 j)] → s.defs = [] →
    ∃ s', Loop C [15, 22, 24, 25, 26] l_law07_TallyKnown_0 s (.exit 2) s' ∧ ekeep [15, 22, 24, 25] s'.env = [(15, .r v), (22, .r w), (24, i64 i), (25, bo (was || (l.drop j).contains o[i]))] ∧ s'.m.h = s.m.h ∧ s'.defs = [] := by
  intro k
  induction k with
  | zero =>
    intro j was s hj he hd
    have e0 : ((j : Int) < (l.length : Int)) = False := eq_false (by omega)
    have : l.drop j = [] := List.drop_eq_nil_of_le (by omega)
    rw [this]
    exact ⟨_, .stop (.of fun K => by rw [he]; simp [l_law07_TallyKnown_0, hl.len, e0]; rfl) (by simp), by simp, by simp, by simp [hd]⟩
  | succ k ih =>
    intro j was s hj he hd
    have hjl : j < l.length := by omega
    have e0 : ((j : Int) < (l.length : Int)) = True := eq_true (by omega)
    have w1 : IntKind.wrap .i64 ((j : Int) + 1) = j + 1 := by rw [w64] <;> omega
    have hdrop : l.drop j = l[j] :: l.drop (j + 1) := List.drop_eq_getElem_cons hjl
    have hrd : ∃ s1, Den C l_law07_TallyKnown_0 { s with env := ekeep [15, 22, 24, 25, 26] s.env } .norm s1 ∧ ekeep [15, 22, 24, 25, 26] s1.env = [(15, .r v), (22, .r w), (24, i64 i), (25, bo (was || l[j] == o[i])), (26, i64 (j + 1 : Nat))] ∧ s1.m.h = s.m.h ∧ s1.defs = [] := by
      cases was with
      | true =>
        exact ⟨_, .of fun K => by
          rw [he]
          simp [l_law07_TallyKnown_0, hl.len, e0, w1]
          rfl, by simp, by simp, by simp [hd]⟩
      | false =>
        exact ⟨_, .of fun K => by
          rw [he]
          simp [l_law07_TallyKnown_0, hl.len, e0, w1, hl.at hjl, ho.at hi, load_ints hjl, load_ints hi]
          rfl, by simp, by simp, by simp [hd]⟩
    obtain ⟨s1, r1, r2, r3, r4⟩ := hrd
    obtain ⟨s', h1, h2, h3, h4⟩ := ih (j + 1) (was || l[j] == o[i]) s1 (by omega) r2 r4
    refine ⟨s', .more r1 h1, ?_, h3.trans r3, h4⟩
    rw [h2, hdrop, List.contains_cons]
    have : (l[j] == o[i]) = (o[i] == l[j]) := by
      rw [Bool.eq_iff_iff, beq_iff_eq, beq_iff_eq]
      exact ⟨fun h => h.symm, fun h => h.symm⟩
    rw [this, Bool.or_assoc]
theorem known_outer (hl : Sl (ints .u8 l) l.length v) (ho : Sl (ints .u8 o) o.length w) (hb : l.length < 2 ^ 62) (hbo : o.length < 2 ^ 62) (hsub : ∀ x ∈ o, x ∈ l) : ∀ (k i : Nat) (s : St), i + k = o.length → ekeep [15, 22, 24] s.env = [(15, .r v), (22, .r w), (24, i64 i)] → s.defs = [] →
    ∃ s', Loop C [15, 22, 24] l_law07_TallyKnown_1 s (.exit 0) s' ∧ s'.m.h = s.m.h ∧ s'.defs = [] := by
  intro k
  induction k with
  | zero =>
    intro i s hi he hd
    have e0 : ((i : Int) < (o.length : Int)) = False := eq_false (by omega)
    exact ⟨_, .stop (.of fun K => by rw [he]; simp [l_law07_TallyKnown_1, ho.len, e0]; rfl) (by simp), by simp, by simp [hd]⟩
  | succ k ih =>
    intro i s hi he hd
    have hil : i < o.length := by omega
    have e0 : ((i : Int) < (o.length : Int)) = True := eq_true (by omega)
    have w1 : IntKind.wrap .i64 ((i : Int) + 1) = i + 1 := by rw [w64] <;> omega
    obtain ⟨s2, l2, e2, m2, d2⟩ := known_inner hl ho hb hil l.length 0 false { s with env := [(26, i64 0), (25, bo false), (15, .r v), (22, .r w), (24, i64 i), (153, bo true)] } (by omega) (by simp) hd
    have hc : l.contains o[i] = true := by rw [List.contains_iff_mem]; exact hsub _ (List.getElem_mem hil)
    rw [List.drop_zero, hc, Bool.false_or] at e2
    obtain ⟨c2, k2⟩ := l2.get
    have e2' : eget s2.env 15 = .r v ∧ eget s2.env 22 = .r w ∧ eget s2.env 24 = i64 i ∧ eget s2.env 25 = bo true := by simpa [ekeep] using e2
    obtain ⟨f15, f22, f24, f25⟩ := e2'
    have hrd : ∃ s1, Den C l_law07_TallyKnown_1 { s with env := ekeep [15, 22, 24] s.env } .norm s1 ∧ ekeep [15, 22, 24] s1.env = [(15, .r v), (22, .r w), (24, i64 (i + 1 : Nat))] ∧ s1.m.h = s2.m.h ∧ s1.defs = [] :=
      ⟨_, .ofN ⟨c2, fun n hn => by
        have k2 := k2 n hn
        rw [he]
        simp [l_law07_TallyKnown_1, ho.len, e0, w1, k2, f15, f22, f24, f25]
        rfl⟩, by simp, by simp, by simp [d2]⟩
    obtain ⟨s1, r1, r2, r3, r4⟩ := hrd
    obtain ⟨s', h1, h2, h3⟩ := ih (i + 1) s1 (by omega) r2 r4
    exact ⟨s', .more r1 h1, h2.trans (r3.trans m2), h3⟩
end
section
variable {d : Div} {a0 a1 n0 n1 p q : RV}
theorem ready_spec (hs : DivS d a0 a1 n0 n1 p q) (hb : Small d) (m : Mem) : CallR C (fnv fn_law07_ready) [.r (.agg (divC d a0 a1 n0 n1 p q))] m (.ret (bo (fewB d && decide (openI d = 0))) m) := by
  obtain ⟨H, hH⟩ : ∃ H, H = m.h ++ [.cells (rs (divC d a0 a1 n0 n1 p q)) ty_ref07_Division 0] := ⟨_, rfl⟩
  have hc : H[m.h.length]? = some (.cells (rs (divC d a0 a1 n0 n1 p q)) ty_ref07_Division 0) := by simp [hH]
  have ht : H.take m.h.length = m.h := by simp [hH]
  have hd11 : (divC d a0 a1 n0 n1 p q).length = 11 := rfl
  obtain ⟨c0, k0⟩ := Few_spec hs { h := H }
  obtain ⟨c1, k1⟩ := lawopen_spec hs hb { h := H }
  cases ef : fewB d with
  | false =>
    rw [ef] at k0
    exact CallR.eval (m1 := { h := H }) rfl rfl prog_law07_ready rfl ⟨c0, fun k hk => by simp [a_law07_ready, ← hH, hc, hd11, k0 k (by omega)]⟩ ht (by simp)
  | true =>
    rw [ef] at k0
    obtain ⟨z, hz⟩ : ∃ z, z = openI d := ⟨_, rfl⟩
    rw [← hz] at k1 ⊢
    refine CallR.eval (m1 := { h := H }) rfl rfl prog_law07_ready rfl ⟨c0 + c1, fun k hk => ?_⟩ ht (by simp)
    by_cases e : z = 0
    · simp [a_law07_ready, ← hH, hc, hd11, k0 k (by omega), k1 k (by omega), e]
    · have e' : (z == 0) = false := by simpa using e
      simp [a_law07_ready, ← hH, hc, hd11, k0 k (by omega), k1 k (by omega), e, e']
end
end Go.AM.T
/- What the functions compute (own work). -/
namespace Go.AM.T
open Go Go.AM
attribute [local simp] so_mov so_pick so_alloc so_box so_build so_slit so_load so_store so_nilc so_bin so_beq so_eqs so_eqn so_eqnl so_not so_conv so_s2b so_mkfn so_slcA so_padd so_fld so_idxA so_idxV so_idxT so_look so_mupd so_mkmap so_mksl so_ext so_app so_lenT so_lenM so_min so_max so_cpy so_clr so_mkif so_tass so_lenS so_idxS so_slc
attribute [local simp] dn_skip dn_label dn_ret dn_exit dn_scope dn_keep dn_reg dn_draw0 noSlots denE denEI stepE  sd_mov sd_pick sd_build sd_load sd_store sd_nilc sd_bin sd_beq sd_eqs sd_eqn sd_eqnl sd_not sd_conv sd_s2b sd_mkfn sd_slc sd_slcA sd_padd sd_fld sd_idxS sd_idxA sd_idxV sd_idxT sd_look sd_mupd sd_ext sd_app sd_lenS sd_lenT sd_lenM sd_min sd_max sd_mkif sd_tass sd_call sd_slit dn_seq dn_cond dn_block dn_loop kn_call denIs denI denOp wants ev eget putD binL enumFrom AV.bool? AV.int? ekeep evs evp runV fin runDefs resAll resOf tupOf unit AV.cells okV ok1 Value.oneCell' fill setN rcells rs_nil rs_cons load_own load_cons mkAgg_rs storeN jmpOut
attribute [local simp] dvL dv1t dvAt mkAgg2 dv0 dv1 dv2 dv3 dv4 dv5 dv6 dv7 dv8 dv9 dv10 dvA dvN dvAll C_fz fzr
section
variable {d : Div} {a0 a1 n0 n1 p q : RV}
/-- The slices of the changed division. -/
def knownC (d : Div) (aye k : Bool) (x : Int) : List RV :=
  if aye then (if k then divC d (listV d.a0) (gpV (ints .i64 (toldL d.a1 x (d.a0.contains x)))) (listV d.n0) (listV d.n1) (pairV d.pairs) (pairV d.proxies) else divC d (gpV (ints .i64 (toldL d.a0 x (d.a1.contains x)))) (listV d.a1) (listV d.n0) (listV d.n1) (pairV d.pairs) (pairV d.proxies))
  else (if k then divC d (listV d.a0) (listV d.a1) (listV d.n0) (gpV (ints .i64 (toldL d.n1 x (d.n0.contains x)))) (pairV d.pairs) (pairV d.proxies) else divC d (listV d.a0) (listV d.a1) (gpV (ints .i64 (toldL d.n0 x (d.n1.contains x)))) (listV d.n1) (pairV d.pairs) (pairV d.proxies))
theorem knownS (d : Div) (aye k : Bool) (x : Int) : ∃ s0 s1 s2 s3 s4 s5, knownC d aye k x = divC (knownD d aye k x) s0 s1 s2 s3 s4 s5 ∧ DivS (knownD d aye k x) s0 s1 s2 s3 s4 s5 := by
  cases aye <;> cases k
  · exact ⟨_, _, _, _, _, _, rfl, Sl.listV _, Sl.listV _, Sl.gpV _, Sl.listV _, SlP.pairV _, SlP.pairV _⟩
  · exact ⟨_, _, _, _, _, _, rfl, Sl.listV _, Sl.listV _, Sl.listV _, Sl.gpV _, SlP.pairV _, SlP.pairV _⟩
  · exact ⟨_, _, _, _, _, _, rfl, Sl.gpV _, Sl.listV _, Sl.listV _, Sl.listV _, SlP.pairV _, SlP.pairV _⟩
  · exact ⟨_, _, _, _, _, _, rfl, Sl.listV _, Sl.gpV _, Sl.listV _, Sl.listV _, SlP.pairV _, SlP.pairV _⟩
theorem few_len {d : Div} (h : fewB d = true) : d.a0.length ≤ 45 ∧ d.a1.length ≤ 45 ∧ d.n0.length ≤ 45 ∧ d.n1.length ≤ 45 ∧ d.pairs.length ≤ 12 ∧ d.proxies.length ≤ 12 := by
  simp [fewB, few1] at h
  omega
theorem known_small {d : Div} (h : fewB d = true) (aye k : Bool) (x : Int) : Small (knownD d aye k x) := by
  have h := few_len h
  cases aye <;> cases k
  all_goals
    simp only [knownD, if_true, Bool.false_eq_true, if_false]
    refine ⟨?_, ?_, ?_, ?_, ?_, ?_⟩ <;> simp only <;> first
      | omega
      | (refine Nat.lt_of_le_of_lt (told_len _ _ _) ?_; omega)
/-- The part of the law that changes a list. -/
theorem known_store (hs : DivS d a0 a1 n0 n1 p q) (hb : Small d) (hfew : fewB d = true) (aye k : Bool) (x : Int) {H : List Blk} (h0 : H[0]? = some (.cells (rs (divC d a0 a1 n0 n1 p q)) ty_ref07_Division 0)) (h1 : H[1]? = some (.cells (rs (copyC d)) ty_tally_Division 0)) (W : List Nat) :
    ∃ c, ∀ n, c ≤ n → den (Kn C n) (if aye then (.seq (.draw r_law07_TallyKnown_24 0 [(4, 12)] [0, 1, 2, 3, 4, 5, 6, 7, 8, 9, 10, 11, 12, 13, 14, 15, 16]) (.keep [4, 11])) else (.seq (.draw r_law07_TallyKnown_25 0 [(4, 12)] [0, 1, 2, 3, 4, 5, 6, 7, 8, 9, 10, 11, 12, 13, 14, 15, 16]) (.keep [4, 11])))
      { env := [(41, bo aye), (1, bo aye), (4, .own 0 0 0), (9, i64 (b2i k)), (10, i64 x), (11, .own 1 0 0)], m := { h := H, wr := W } } = some (.norm, { env := [(4, .own 0 0 0), (11, .own 1 0 0)], m := { h := H.set 1 (.cells (rs (knownC d aye k x)) ty_tally_Division 0), wr := 1 :: W } }) := by
  have hf := few_len hfew
  obtain ⟨c1, k1⟩ := Has_spec hs.a0 hb.a0 x { h := H }
  obtain ⟨c2, k2⟩ := Has_spec hs.a1 hb.a1 x { h := H }
  obtain ⟨c3, k3⟩ := Has_spec hs.n0 hb.n0 x { h := H }
  obtain ⟨c4, k4⟩ := Has_spec hs.n1 hb.n1 x { h := H }
  obtain ⟨c5, k5⟩ := told_spec (Sl.listV d.a0) hf.1 x (d.a1.contains x) { h := H }
  obtain ⟨c6, k6⟩ := told_spec (Sl.listV d.a1) hf.2.1 x (d.a0.contains x) { h := H }
  obtain ⟨c7, k7⟩ := told_spec (Sl.listV d.n0) hf.2.2.1 x (d.n1.contains x) { h := H }
  obtain ⟨c8, k8⟩ := told_spec (Sl.listV d.n1) hf.2.2.2.1 x (d.n0.contains x) { h := H }
  have hok : ∀ cs, ∃ I n c, gpV cs = .sl I n c := fun cs => by unfold gpV; split <;> exact ⟨_, _, _, rfl⟩
  have g0 := gq h0
  have g1 := gq h1
  refine ⟨c1 + c2 + c3 + c4 + c5 + c6 + c7 + c8, fun n hn => ?_⟩
  have k1 := k1 n (by omega)
  have k2 := k2 n (by omega)
  have k3 := k3 n (by omega)
  have k4 := k4 n (by omega)
  have k5 := k5 n (by omega)
  have k6 := k6 n (by omega)
  have k7 := k7 n (by omega)
  have k8 := k8 n (by omega)
  cases aye <;> cases k
  all_goals
    simp only [knownC, if_true, Bool.false_eq_true, if_false, b2i]
  · obtain ⟨I, n', c', hG⟩ := hok (ints .i64 (toldL d.n0 x (d.n1.contains x)))
    rw [hG] at k7 ⊢
    obtain ⟨cb, hcb⟩ : ∃ cb, cb = d.n1.contains x := ⟨_, rfl⟩
    rw [← hcb] at k7 k4
    unfold copyC at h1 g1
    simp [dn_drawF, denF, denFI, stepF, slotFree, slotOf, foot, avIdx, pairsOk, apartL_nil, wrAll_self, h0, h1, g0, g1, wk0, wk1, k4, k7]
    try rfl
  · obtain ⟨I, n', c', hG⟩ := hok (ints .i64 (toldL d.n1 x (d.n0.contains x)))
    rw [hG] at k8 ⊢
    obtain ⟨cb, hcb⟩ : ∃ cb, cb = d.n0.contains x := ⟨_, rfl⟩
    rw [← hcb] at k8 k3
    unfold copyC at h1 g1
    simp [dn_drawF, denF, denFI, stepF, slotFree, slotOf, foot, avIdx, pairsOk, apartL_nil, wrAll_self, h0, h1, g0, g1, wk0, wk1, k3, k8]
    try rfl
  · obtain ⟨I, n', c', hG⟩ := hok (ints .i64 (toldL d.a0 x (d.a1.contains x)))
    rw [hG] at k5 ⊢
    obtain ⟨cb, hcb⟩ : ∃ cb, cb = d.a1.contains x := ⟨_, rfl⟩
    rw [← hcb] at k5 k2
    unfold copyC at h1 g1
    simp [dn_drawF, denF, denFI, stepF, slotFree, slotOf, foot, avIdx, pairsOk, apartL_nil, wrAll_self, h0, h1, g0, g1, wk0, wk1, k2, k5]
    try rfl
  · obtain ⟨I, n', c', hG⟩ := hok (ints .i64 (toldL d.a1 x (d.a0.contains x)))
    rw [hG] at k6 ⊢
    obtain ⟨cb, hcb⟩ : ∃ cb, cb = d.a0.contains x := ⟨_, rfl⟩
    rw [← hcb] at k6 k1
    unfold copyC at h1 g1
    simp [dn_drawF, denF, denFI, stepF, slotFree, slotOf, foot, avIdx, pairsOk, apartL_nil, wrAll_self, h0, h1, g0, g1, wk0, wk1, k1, k6]
    try rfl
end
end Go.AM.T
/- What the functions compute (own work). -/
namespace Go.AM.T
open Go Go.AM
attribute [local simp] so_mov so_pick so_alloc so_box so_build so_slit so_load so_store so_nilc so_bin so_beq so_eqs so_eqn so_eqnl so_not so_conv so_s2b so_mkfn so_slcA so_padd so_fld so_idxA so_idxV so_idxT so_look so_mupd so_mkmap so_mksl so_ext so_app so_lenT so_lenM so_min so_max so_cpy so_clr so_mkif so_tass so_lenS so_idxS so_slc
attribute [local simp] dn_skip dn_label dn_ret dn_exit dn_scope dn_keep dn_reg dn_draw0 noSlots denE denEI stepE  sd_mov sd_pick sd_build sd_load sd_store sd_nilc sd_bin sd_beq sd_eqs sd_eqn sd_eqnl sd_not sd_conv sd_s2b sd_mkfn sd_slc sd_slcA sd_padd sd_fld sd_idxS sd_idxA sd_idxV sd_idxT sd_look sd_mupd sd_ext sd_app sd_lenS sd_lenT sd_lenM sd_min sd_max sd_mkif sd_tass sd_call sd_slit dn_seq dn_cond dn_block dn_loop kn_call denIs denI denOp wants ev eget putD binL enumFrom AV.bool? AV.int? ekeep evs evp runV fin runDefs resAll resOf tupOf unit AV.cells okV ok1 Value.oneCell' fill setN rcells rs_nil rs_cons load_own load_cons mkAgg_rs storeN jmpOut
attribute [local simp] dvL dv1t dvAt mkAgg2 dv0 dv1 dv2 dv3 dv4 dv5 dv6 dv7 dv8 dv9 dv10 dvA dvN dvAll C_fz fzr
section
variable {d : Div} {a0 a1 n0 n1 p q : RV}
theorem seq_keep {K : Kit} {a : AC} {live : List Nat} {s t : St} (h : den K (.seq a (.keep live)) s = some (.norm, t)) : ∃ s', den K a s = some (.norm, s') ∧ { s' with env := ekeep live s'.env } = t := by
  rw [dn_seq] at h
  split at h
  · rename_i s' e
    rw [dn_keep] at h
    exact ⟨s', e, by cases h; rfl⟩
  · rename_i h2
    exact absurd h (h2 t)
theorem known_store2 (hs : DivS d a0 a1 n0 n1 p q) (hb : Small d) (hfew : fewB d = true) (aye k : Bool) (x : Int) {H : List Blk} (h0 : H[0]? = some (.cells (rs (divC d a0 a1 n0 n1 p q)) ty_ref07_Division 0)) (h1 : H[1]? = some (.cells (rs (copyC d)) ty_tally_Division 0)) (W : List Nat) :
    ∃ c, ∀ n, c ≤ n → ∃ s', den (Kn C n) (if aye then .draw r_law07_TallyKnown_24 0 [(4, 12)] [0, 1, 2, 3, 4, 5, 6, 7, 8, 9, 10, 11, 12, 13, 14, 15, 16] else .draw r_law07_TallyKnown_25 0 [(4, 12)] [0, 1, 2, 3, 4, 5, 6, 7, 8, 9, 10, 11, 12, 13, 14, 15, 16])
      { env := [(41, bo aye), (1, bo aye), (4, .own 0 0 0), (9, i64 (b2i k)), (10, i64 x), (11, .own 1 0 0)], m := { h := H, wr := W } } = some (.norm, s') ∧ eget s'.env 4 = .own 0 0 0 ∧ eget s'.env 11 = .own 1 0 0 ∧ s'.m = { h := H.set 1 (.cells (rs (knownC d aye k x)) ty_tally_Division 0), wr := 1 :: W } ∧ s'.defs = [] ∧ s'.round = none ∧ s'.rcv = none ∧ s'.recd = false := by
  obtain ⟨c, h⟩ := known_store hs hb hfew aye k x h0 h1 W
  refine ⟨c, fun n hn => ?_⟩
  have h := h n hn
  cases aye with
  | true =>
    simp only [if_true] at h ⊢
    obtain ⟨s', e1, e2⟩ := seq_keep h
    have h3 := congrArg St.env e2
    simp [ekeep] at h3
    exact ⟨s', e1, h3.1, h3.2, congrArg St.m e2, congrArg St.defs e2, congrArg St.round e2, congrArg St.rcv e2, congrArg St.recd e2⟩
  | false =>
    simp only [Bool.false_eq_true, if_false] at h ⊢
    obtain ⟨s', e1, e2⟩ := seq_keep h
    have h3 := congrArg St.env e2
    simp [ekeep] at h3
    exact ⟨s', e1, h3.1, h3.2, congrArg St.m e2, congrArg St.defs e2, congrArg St.round e2, congrArg St.rcv e2, congrArg St.recd e2⟩
theorem TallyKnown_spec (hs : DivS d a0 a1 n0 n1 p q) (hb : Small d) (hru : 0 ≤ d.rule ∧ d.rule ≤ 255) (aye : Bool) {te me : Int} (hte : 0 ≤ te ∧ te ≤ 255) (hme : 0 ≤ me ∧ me ≤ 255) :
    CallR C (fnv fn_law07_TallyKnown) [.r (.agg (divC d a0 a1 n0 n1 p q)), bo aye, u8 te, u8 me] { h := [] } (.ret (bo true) { h := [] }) := by
  have hd11 : (divC d a0 a1 n0 n1 p q).length = 11 := rfl
  obtain ⟨H0, hH0⟩ : ∃ H : List Blk, H = [.cells (rs (divC d a0 a1 n0 n1 p q)) ty_ref07_Division 0] := ⟨_, rfl⟩
  obtain ⟨c1, k1⟩ := ready_spec hs hb { h := H0 }
  obtain ⟨c2, k2⟩ := wakes_spec { h := H0 }
  have g0 : H0[0]? = some (.cells (rs (divC d a0 a1 n0 n1 p q)) ty_ref07_Division 0) := by rw [hH0]; rfl
  obtain ⟨D, hD⟩ : ∃ D, D = divC d a0 a1 n0 n1 p q := ⟨_, rfl⟩
  by_cases hrdy : fewB d = true ∧ openI d = 0
  case neg =>
    have e1 : (fewB d && decide (openI d = 0)) = false := by
      cases h : fewB d with
      | false => rfl
      | true => simp; exact fun h2 => hrdy ⟨h, h2⟩
    rw [e1] at k1
    rw [← hD] at k1 hH0 g0 hd11 ⊢
    have hDt : List.take 11 (rs D) = rs D := List.take_of_length_le (by rw [rs_len]; omega)
    exact CallR.eval (m1 := { h := H0 }) rfl rfl prog_law07_TallyKnown rfl ⟨c1 + c2, fun k hk => by simp [a_law07_TallyKnown, rs_len, hd11, hDt, ← hH0, g0, gq g0, k1 k (by omega), k2 k (by omega)]⟩ (by simp) (by simp)
  obtain ⟨hfew, ho⟩ := hrdy
  rw [hfew, ho] at k1
  obtain ⟨hr, hcl, hdb⟩ := openI0 ho
  have hn := right_n hr
  -- who, and which list
  obtain ⟨kk, hkk⟩ : ∃ kk : Bool, te.tmod 2 = b2i kk := by
    have := Int.tmod_lt_of_pos te (show (0 : Int) < 2 by decide)
    have h2 := Int.tmod_nonneg 2 hte.1
    by_cases h : te.tmod 2 = 0
    · exact ⟨false, h⟩
    · exact ⟨true, by show te.tmod 2 = 1; omega⟩
  obtain ⟨x, hx⟩ : ∃ x, x = me.tmod d.n := ⟨_, rfl⟩
  have hxr : 0 ≤ x ∧ x < d.n := by
    have := Int.tmod_lt_of_pos me (show (0 : Int) < d.n by omega)
    have h2 := Int.tmod_nonneg d.n hme.1
    omega
  obtain ⟨E, hE⟩ : ∃ E, E = knownD d aye kk x := ⟨_, rfl⟩
  have hsub : SubD E d := by rw [hE]; exact known_sub d aye kk x
  have hrE : rightB E = true := by rw [hE]; exact known_right aye kk hr hxr
  have hsmE : Small E := by rw [hE]; exact known_small hfew aye kk x
  obtain ⟨s0, s1, s2, s3, s4, s5, hKC, hKS⟩ := knownS d aye kk x
  rw [← hE] at hKC hKS
  have hruE : 0 ≤ E.rule ∧ E.rule ≤ 255 := by rw [hsub.rule]; exact hru
  have hopE := hsub.open_ ho hrE
  obtain ⟨X, hX⟩ : ∃ X, X = copyC d := ⟨_, rfl⟩
  obtain ⟨Y, hY⟩ : ∃ Y, Y = knownC d aye kk x := ⟨_, rfl⟩
  have lX : X.length = 11 := by rw [hX]; rfl
  have lY : Y.length = 11 := by rw [hY, hKC]; rfl
  obtain ⟨c3, k3⟩ := lawDivision_spec hs hfew { h := H0 }
  obtain ⟨H1, hH1⟩ : ∃ H : List Blk, H = [.cells (rs (divC d a0 a1 n0 n1 p q)) ty_ref07_Division 0, .cells (rs X) ty_tally_Division 0] := ⟨_, rfl⟩
  obtain ⟨c4, k4⟩ := known_store2 hs hb hfew aye kk x (H := H1) (by rw [hH1]; rfl) (by rw [hH1, hX]; rfl) [1]
  obtain ⟨H2, hH2⟩ : ∃ H : List Blk, H = [.cells (rs (divC d a0 a1 n0 n1 p q)) ty_ref07_Division 0, .cells (rs Y) ty_tally_Division 0] := ⟨_, rfl⟩
  have hset1 : H1.set 1 (.cells (rs Y) ty_tally_Division 0) = H2 := by rw [hH1, hH2]; rfl
  rw [← hY, hset1] at k4
  obtain ⟨c5, k5⟩ := lawDivision_spec hs hfew { h := H2, wr := [1, 1] }
  obtain ⟨c6, k6⟩ := Bounds_spec (copyS d) hb hru { h := H2, wr := [1, 1] }
  rw [show divC d (listV d.a0) (listV d.a1) (listV d.n0) (listV d.n1) (pairV d.pairs) (pairV d.proxies) = copyC d from rfl] at k6
  obtain ⟨A, hA⟩ : ∃ A, A = (bnL d).a := ⟨_, rfl⟩
  obtain ⟨B, hB⟩ : ∃ B, B = (bnL d).b := ⟨_, rfl⟩
  rw [if_pos ho, if_pos ho, ho, ← hA, ← hB] at k6
  simp only [nmR] at k6
  obtain ⟨H3, hH3⟩ : ∃ H : List Blk, H = [.cells (rs (divC d a0 a1 n0 n1 p q)) ty_ref07_Division 0, .cells (rs Y) ty_tally_Division 0, .cells [i64 A.1, i64 A.2] ty_tally_Range 0, .cells [i64 B.1, i64 B.2] ty_tally_Range 0] := ⟨_, rfl⟩
  obtain ⟨c7, k7⟩ := lawDivision_spec hs hfew { h := H3, wr := [3, 2, 1, 1] }
  obtain ⟨c8, k8⟩ := Allowed_spec (copyS d) hb hru { h := H3, wr := [3, 2, 1, 1] }
  rw [show divC d (listV d.a0) (listV d.a1) (listV d.n0) (listV d.n1) (pairV d.pairs) (pairV d.proxies) = copyC d from rfl] at k8
  obtain ⟨v15, hv15⟩ : ∃ v, v = RV.sl (ints .u8 (alS d)) (alS d).length none := ⟨_, rfl⟩
  rw [if_pos ho, ho, ← hv15] at k8
  obtain ⟨c9, k9⟩ := Bounds_spec hKS hsmE hruE { h := H3, wr := [3, 2, 1, 1] }
  rw [← hKC, ← hY] at k9
  obtain ⟨U, hU⟩ : ∃ U, U = (if openI E = 0 then (bnL E).a else (0, 0)) := ⟨_, rfl⟩
  obtain ⟨V, hV⟩ : ∃ V, V = (if openI E = 0 then (bnL E).b else (0, 0)) := ⟨_, rfl⟩
  rw [← hU, ← hV] at k9
  simp only [nmR] at k9
  obtain ⟨H4, hH4⟩ : ∃ H : List Blk, H = [.cells (rs (divC d a0 a1 n0 n1 p q)) ty_ref07_Division 0, .cells (rs Y) ty_tally_Division 0, .cells [i64 A.1, i64 A.2] ty_tally_Range 0, .cells [i64 B.1, i64 B.2] ty_tally_Range 0, .cells [i64 U.1, i64 U.2] ty_tally_Range 0, .cells [i64 V.1, i64 V.2] ty_tally_Range 0] := ⟨_, rfl⟩
  obtain ⟨c10, k10⟩ := wakes_spec { h := H4, wr := [5, 4, 3, 2, 1, 1] }
  rw [← hX] at k3 k5 k6 k7 k8
  rw [← hD] at k1 k3 k5 k7 hH0 hH1 hH2 hH3 hH4 g0 hd11 ⊢
  have hDt : List.take 11 (rs D) = rs D := List.take_of_length_le (by rw [rs_len]; omega)
  have hXt : List.take 11 (rs X) = rs X := List.take_of_length_le (by rw [rs_len]; omega)
  have hYt : List.take 11 (rs Y) = rs Y := List.take_of_length_le (by rw [rs_len]; omega)
  have hDn : List.take 1 (rs D) = [i64 d.n] := by rw [hD]; rfl
  have hte' : IntKind.wrap .i64 te = te := by rw [w64] <;> omega
  have hme' : IntKind.wrap .i64 me = me := by rw [w64] <;> omega
  have hn0 : (d.n = 0) = False := eq_false (by omega)
  have l0 : H0.length = 1 := by rw [hH0]; rfl
  have l2 : H2.length = 2 := by rw [hH2]; rfl
  have l3 : H3.length = 4 := by rw [hH3]; rfl
  have a0' : ∀ b, H0 ++ [b] = [.cells (rs D) ty_ref07_Division 0, b] := fun b => by rw [hH0]; rfl
  have a2' : ∀ b c, H2 ++ [b, c] = [.cells (rs D) ty_ref07_Division 0, .cells (rs Y) ty_tally_Division 0, b, c] := fun b c => by rw [hH2]; rfl
  have a3' : ∀ b c, H3 ++ [b, c] = [.cells (rs D) ty_ref07_Division 0, .cells (rs Y) ty_tally_Division 0, .cells [i64 A.1, i64 A.2] ty_tally_Range 0, .cells [i64 B.1, i64 B.2] ty_tally_Range 0, b, c] := fun b c => by rw [hH3]; rfl
  have p10 : H1[0]? = some (.cells (rs D) ty_ref07_Division 0) := by rw [hH1]; rfl
  have p20 : H2[0]? = some (.cells (rs D) ty_ref07_Division 0) := by rw [hH2]; rfl
  have p30 : H3[0]? = some (.cells (rs D) ty_ref07_Division 0) := by rw [hH3]; rfl
  have p31 : H3[1]? = some (.cells (rs Y) ty_tally_Division 0) := by rw [hH3]; rfl
  have p41 : H4[1]? = some (.cells (rs Y) ty_tally_Division 0) := by rw [hH4]; rfl
  have p42 : H4[2]? = some (.cells [i64 A.1, i64 A.2] ty_tally_Range 0) := by rw [hH4]; rfl
  have p43 : H4[3]? = some (.cells [i64 B.1, i64 B.2] ty_tally_Range 0) := by rw [hH4]; rfl
  have p44 : H4[4]? = some (.cells [i64 U.1, i64 U.2] ty_tally_Range 0) := by rw [hH4]; rfl
  have p45 : H4[5]? = some (.cells [i64 V.1, i64 V.2] ty_tally_Range 0) := by rw [hH4]; rfl
  by_cases hce : (clashB E).isSome = true
  · rw [if_pos hce] at hopE
    rw [hopE] at k9 hU hV
    rw [if_neg (by decide)] at hU hV
    subst hU hV
    have hs45 : (H4.set 4 (.cells [i64 0, i64 0] ty_tally_Range 0)).set 5 (.cells [i64 0, i64 0] ty_tally_Range 0) = H4 := by rw [hH4]; rfl
    obtain ⟨c11, k11⟩ := tClash_spec hKS hsmE hruE { h := H4, wr := [5, 4, 3, 2, 1, 1] }
    rw [← hKC, ← hY, if_pos hrE, if_pos hrE, if_pos hce] at k11
    refine CallR.eval (m1 := { h := H4, wr := [5, 4, 3, 2, 1, 1] }) rfl rfl prog_law07_TallyKnown rfl ⟨c1 + c2 + c3 + c4 + c5 + c6 + c7 + c8 + c9 + c10 + c11, fun k hk => ?_⟩ (by simp) (by simp)
    obtain ⟨st, q1, q2, q3, q4, q5, q6, q7, q8⟩ := k4 k (by omega)
    cases aye with
    | true =>
      simp only [if_true] at q1
      simp [a_law07_TallyKnown, -r_law07_TallyKnown_24, -r_law07_TallyKnown_25, rs_len, hd11, lX, lY, hDt, hXt, hYt, ← hH0, g0, gq g0, l0, l2, l3, k1 k (by omega), hte', hme', hDn, hn0, hkk, ← hx, k3 k (by omega), a0', ← hH1, q1, q2, q3, q4, q5, q6, q7, q8, p10, p20, p30, p31, p41, p42, p43, p44, p45, gq p20, gq p30, gq p31, k5 k (by omega), k6 k (by omega), a2', ← hH3, k7 k (by omega), k8 k (by omega), k9 k (by omega), a3', ← hH4, hs45, k11 k (by omega), k10 k (by omega)]
    | false =>
      simp only [Bool.false_eq_true, if_false] at q1
      simp [a_law07_TallyKnown, -r_law07_TallyKnown_24, -r_law07_TallyKnown_25, rs_len, hd11, lX, lY, hDt, hXt, hYt, ← hH0, g0, gq g0, l0, l2, l3, k1 k (by omega), hte', hme', hDn, hn0, hkk, ← hx, k3 k (by omega), a0', ← hH1, q1, q2, q3, q4, q5, q6, q7, q8, p10, p20, p30, p31, p41, p42, p43, p44, p45, gq p20, gq p30, gq p31, k5 k (by omega), k6 k (by omega), a2', ← hH3, k7 k (by omega), k8 k (by omega), k9 k (by omega), a3', ← hH4, hs45, k11 k (by omega), k10 k (by omega)]
  · rw [if_neg hce] at hopE
    rw [hopE] at k9 hU hV
    rw [if_pos rfl] at hU hV
    have hbn := hsub.bn ho hopE
    rw [← hA, ← hB, ← hU, ← hV] at hbn
    have b1 : (U.1 < A.1) = False := eq_false (by omega)
    have b2 : (A.2 < U.2) = False := eq_false (by omega)
    have b3 : (V.1 < B.1) = False := eq_false (by omega)
    have b4 : (B.2 < V.2) = False := eq_false (by omega)
    obtain ⟨c12, k12⟩ := Allowed_spec hKS hsmE hruE { h := H4, wr := [5, 4, 3, 2, 1, 1] }
    obtain ⟨v22, hv22⟩ : ∃ v, v = RV.sl (ints .u8 (alS E)) (alS E).length none := ⟨_, rfl⟩
    rw [← hKC, ← hY, if_pos hopE, hopE, ← hv22] at k12
    have hl1 : (alS d).length ≤ 3 := by rw [alS_len]; exact (alL_ok d).le
    have hl2 : (alS E).length ≤ 3 := by rw [alS_len]; exact (alL_ok E).le
    obtain ⟨s', l1, m5, d5⟩ := known_outer (l := alS d) (o := alS E) (v := v15) (w := v22) (by rw [hv15]; exact Sl.mk _ _ _) (by rw [hv22]; exact Sl.mk _ _ _) (by omega) (by omega) (fun o ho' => hsub.al hn.2 ho') (alS E).length 0 { env := [(24, i64 0), (15, .r v15), (22, .r v22), (149, bo false)], m := { h := H4, wr := [5, 4, 3, 2, 1, 1] } } (by omega) (by simp) rfl
    obtain ⟨c13, k13⟩ := l1.get
    obtain ⟨M, hM⟩ : ∃ M, M = s'.m := ⟨_, rfl⟩
    obtain ⟨c14, k14⟩ := wakes_spec M
    refine CallR.eval (m1 := M) rfl rfl prog_law07_TallyKnown rfl ⟨c1 + c2 + c3 + c4 + c5 + c6 + c7 + c8 + c9 + c10 + c12 + c13 + c14, fun k hk => ?_⟩ (by simp) (by simp)
    obtain ⟨st, q1, q2, q3, q4, q5, q6, q7, q8⟩ := k4 k (by omega)
    have k13 := k13 k (by omega)
    rw [← hM] at m5
    cases aye with
    | true =>
      simp only [if_true] at q1
      simp [a_law07_TallyKnown, -r_law07_TallyKnown_24, -r_law07_TallyKnown_25, rs_len, hd11, lX, lY, hDt, hXt, hYt, ← hH0, g0, gq g0, l0, l2, l3, k1 k (by omega), hte', hme', hDn, hn0, hkk, ← hx, k3 k (by omega), a0', ← hH1, q1, q2, q3, q4, q5, q6, q7, q8, p10, p20, p30, p31, p41, p42, p43, p44, p45, gq p20, gq p30, gq p31, k5 k (by omega), k6 k (by omega), a2', ← hH3, k7 k (by omega), k8 k (by omega), k9 k (by omega), a3', ← hH4, k12 k (by omega), b1, b2, b3, b4, k13, k14 k (by omega), d5, ← hM]
    | false =>
      simp only [Bool.false_eq_true, if_false] at q1
      simp [a_law07_TallyKnown, -r_law07_TallyKnown_24, -r_law07_TallyKnown_25, rs_len, hd11, lX, lY, hDt, hXt, hYt, ← hH0, g0, gq g0, l0, l2, l3, k1 k (by omega), hte', hme', hDn, hn0, hkk, ← hx, k3 k (by omega), a0', ← hH1, q1, q2, q3, q4, q5, q6, q7, q8, p10, p20, p30, p31, p41, p42, p43, p44, p45, gq p20, gq p30, gq p31, k5 k (by omega), k6 k (by omega), a2', ← hH3, k7 k (by omega), k8 k (by omega), k9 k (by omega), a3', ← hH4, k12 k (by omega), b1, b2, b3, b4, k13, k14 k (by omega), d5, ← hM]
end
end Go.AM.T
