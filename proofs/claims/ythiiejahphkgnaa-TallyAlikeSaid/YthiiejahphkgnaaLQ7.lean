/- The machine that the proofs walk by, and what the functions compute: part 7 of the common texts. No condition. (Own work.) -/
import Derived.Test.YthiiejahphkgnaaLQ6
set_option linter.unusedVariables false
set_option linter.unusedSimpArgs false
/- What the functions compute (own work). -/
namespace Go.AM.T
open Go Go.AM
attribute [local simp] so_mov so_pick so_alloc so_box so_build so_slit so_load so_store so_nilc so_bin so_beq so_eqs so_eqn so_eqnl so_not so_conv so_s2b so_mkfn so_slcA so_padd so_fld so_idxA so_idxV so_idxT so_look so_mupd so_mkmap so_mksl so_ext so_app so_lenT so_lenM so_min so_max so_cpy so_clr so_mkif so_tass so_lenS so_idxS so_slc
attribute [local simp] dn_skip dn_label dn_ret dn_exit dn_scope dn_keep dn_reg dn_draw0 noSlots denE denEI stepE  sd_mov sd_pick sd_build sd_load sd_store sd_nilc sd_bin sd_beq sd_eqs sd_eqn sd_eqnl sd_not sd_conv sd_s2b sd_mkfn sd_slc sd_slcA sd_padd sd_fld sd_idxS sd_idxA sd_idxV sd_idxT sd_look sd_mupd sd_ext sd_app sd_lenS sd_lenT sd_lenM sd_min sd_max sd_mkif sd_tass sd_call sd_slit dn_seq dn_cond dn_block dn_loop kn_call denIs denI denOp wants ev eget putD binL enumFrom AV.bool? AV.int? ekeep evs evp runV fin runDefs resAll resOf tupOf unit AV.cells okV ok1 Value.oneCell' fill setN rcells rs_nil rs_cons load_own load_cons mkAgg_rs storeN jmpOut
attribute [local simp] dvL dv1t dvAt mkAgg2 dv0 dv1 dv2 dv3 dv4 dv5 dv6 dv7 dv8 dv9 dv10 dvA dvN dvAll C_fz fzr
/-- What members answer, with the outcome, for some truths. -/
def ansO (d : Div) (ms : List Int) (ts : List (List Int)) : List (List Int × Int) := ts.map fun t => (ansF t ms (List.replicate 40 0), outcomeI d (numsL d t))
/-- Are the votes of some members enough? -/
def decB (d : Div) (ms : List Int) : Bool := decF [] (ansO d ms (truthsOf d))
theorem toldsC_at (d : Div) : ∀ (ts : List (List Int)) (i : Nat) (hi : i < ts.length), (∀ t ∈ ts, t.length = 40) → List.take 41 (List.drop (i * 41) (toldsC d ts)) = toldC d ts[i] ∧ 41 ≤ (List.drop (i * 41) (toldsC d ts)).length
  | t :: ts, 0, _, h => by
    have h1 := toldC_len d (h t (by simp))
    unfold toldsC
    rw [List.flatMap_cons, Nat.zero_mul, List.drop_zero]
    refine ⟨?_, by simp; omega⟩
    rw [List.take_append_of_le_length (by omega), List.take_of_length_le (by omega)]; rfl
  | t :: ts, i + 1, hi, h => by
    have h1 := toldC_len d (h t (by simp))
    have ih := toldsC_at d ts i (by simpa using hi) fun x hx => h x (by simp [hx])
    unfold toldsC at ih ⊢
    rw [List.flatMap_cons, show (i + 1) * 41 = (toldC d t).length + i * 41 by omega, List.drop_append]
    have e1 : (toldC d t).length + i * 41 - (toldC d t).length = i * 41 := by omega
    rw [List.drop_eq_nil_of_le (by omega), List.nil_append, e1]
    exact ih
section
variable {d : Div} {ms : List Int} {v : AV}
theorem dec_outer (hms : ∀ x ∈ ms, 0 ≤ x ∧ x < 40) (hn : ms.length < 2 ^ 62) {ts : List (List Int)} (hts : ∀ t ∈ ts, t.length = 40) (hcnt : ts.length < 2 ^ 62) {M0 : List Blk} (hA : ∀ H' : List Blk, H'.take M0.length = M0 → Arr .i64 H' v ms) (hAl : lenOf v = some ms.length) (cap : Option Nat) :
    ∀ (k i : Nat) (es : List (List Int × Int)) (s : St), i + k = ts.length → (∀ e ∈ es, e.1.length = 40) → ekeep [1, 5, 6, 15, 16, 17] s.env = [(1, v), (5, .omap M0.length), (6, bo true), (15, .r (.sl (toldsC d ts) ts.length cap)), (16, i64 ts.length), (17, i64 i)] →
      s.m.h.take (M0.length + 1) = M0 ++ [.map (mapC es)] → (∀ x ∈ s.m.wr, M0.length ≤ x) → s.defs = [] →
      ∃ s', Loop C [1, 5, 6, 15, 16, 17] l_tally_decide_1 s (.exit 0) s' ∧ eget s'.env 6 = bo (decF es (ansO d ms (ts.drop i))) ∧ s'.m.h.take M0.length = M0 ∧ (∀ x ∈ s'.m.wr, M0.length ≤ x) ∧ s'.defs = [] := by
  intro k
  induction k with
  | zero =>
    intro i es s hi hes he hm hw hd
    have e0 : ((i : Int) < (ts.length : Int)) = False := eq_false (by omega)
    have : ts.drop i = [] := List.drop_eq_nil_of_le (by omega)
    rw [this]
    refine ⟨_, .stop (.of fun K => by rw [he]; simp [l_tally_decide_1, e0]; rfl) (by simp), by simp [ansO, decF], ?_, by simpa using hw, by simp [hd]⟩
    have := congrArg (List.take M0.length) hm
    rw [List.take_take, Nat.min_eq_left (by omega), List.take_left'] at this
    · simpa using this
    · rfl
  | succ k ih =>
    intro i es s hi hes he hm hw hd
    obtain ⟨M, hMM⟩ : ∃ M, M = s.m := ⟨_, rfl⟩
    obtain ⟨H, W⟩ := M
    rw [← hMM] at hm hw
    simp only at hm hw
    have e0 : ((i : Int) < (ts.length : Int)) = True := eq_true (by omega)
    have w1 : IntKind.wrap .i64 ((i : Int) + 1) = i + 1 := by rw [w64] <;> omega
    have hil : i < ts.length := by omega
    obtain ⟨t, ht⟩ : ∃ t, t = ts[i] := ⟨_, rfl⟩
    have ht40 : t.length = 40 := by rw [ht]; exact hts _ (List.getElem_mem hil)
    have hdrop : ts.drop i = t :: ts.drop (i + 1) := by rw [ht]; exact List.drop_eq_getElem_cons hil
    obtain ⟨hta, htl⟩ := toldsC_at d ts i hil hts
    rw [← ht] at hta
    have hC := toldC_len d ht40
    obtain ⟨o, ho⟩ : ∃ o, o = outcomeI d (numsL d t) := ⟨_, rfl⟩
    have hCs : toldC d t = ints .u8 (t ++ [o]) := by rw [ho]; rfl
    have hHl : M0.length + 1 ≤ H.length := by
      have := congrArg List.length hm
      rw [List.length_take] at this
      simp at this; omega
    have hat : atOf 41 (.r (.sl (toldsC d ts) ts.length cap)) (i : Int) = some (.r (.ptr (List.drop (i * 41) (toldsC d ts)))) := by
      simp only [atOf]; rw [if_pos ⟨by omega, by omega⟩]; simp
    obtain ⟨H2, hH2⟩ : ∃ H2, H2 = H ++ [.cells (rs (toldC d t)) ty_tally_told 0, .cells (rs z_tally_truth) ty_tally_truth 0] := ⟨_, rfl⟩
    have hl2 : H2.length = H.length + 2 := by simp [hH2]
    have hM : H.take M0.length = M0 := by
      have := congrArg (List.take M0.length) hm
      rw [List.take_take, Nat.min_eq_left (by omega), List.take_left'] at this
      · exact this
      · rfl
    have hM2 : H2.take M0.length = M0 := by rw [hH2, List.take_append_of_le_length (by omega)]; exact hM
    have hm2 : H2.take (M0.length + 1) = M0 ++ [.map (mapC es)] := by rw [hH2, List.take_append_of_le_length (by omega)]; exact hm
    have g8 : H2[H.length]? = some (.cells (rs (ints .u8 (t ++ [o]))) ty_tally_told 0) := by rw [hH2, hCs]; simp
    have g9 : H2[H.length + 1]? = some (.cells (rs z_tally_truth) ty_tally_truth 0) := by simp [hH2]
    obtain ⟨s2, l2, m2, w2, d2, e2⟩ := dec_inner (T8 := H.length) (T9 := H.length + 1) (o := o) hms hn ht40 (H := H2) hA g8 (by omega) (by omega) hM2 (by omega) (mp := .omap M0.length) (sb := bo true) (tv := .r (.sl (toldsC d ts) ts.length cap)) (tn := i64 ts.length) (ti := i64 i)
      ms.length 0 (List.replicate 40 0) { s with env := [(23, i64 0), (22, i64 ms.length), (21, v), (9, .own (H.length + 1) 0 0), (1, v), (5, .omap M0.length), (6, bo true), (8, .own H.length 0 0), (15, .r (.sl (toldsC d ts) ts.length cap)), (16, i64 ts.length), (17, i64 i)], m := { h := H2, wr := H.length :: W } } (by omega) (by simp) (by simp) (by rw [truth_zero] at g9; exact (set_same g9).symm) (by
        intro z hz
        rcases List.mem_cons.1 hz with rfl | hz
        · omega
        · exact hw z hz) hd
    obtain ⟨c2, k2⟩ := l2.get
    rw [List.drop_zero] at m2
    obtain ⟨A, hAA⟩ : ∃ A, A = ansF t ms (List.replicate 40 0) := ⟨_, rfl⟩
    have hA40 : A.length = 40 := by rw [hAA, ansF_len]; simp
    rw [← hAA] at m2
    obtain ⟨H3, hH3⟩ : ∃ H3, H3 = H2.set (H.length + 1) (.cells (rs (ints .u8 A)) ty_tally_truth 0) := ⟨_, rfl⟩
    rw [← hH3] at m2
    have hm3 : H3.take (M0.length + 1) = M0 ++ [.map (mapC es)] := by rw [hH3, List.take_set_of_le (by omega)]; exact hm2
    have gM : H3[M0.length]? = some (.map (mapC es)) := by rw [take_get hm3 (by omega)]; simp
    have g38 : H3[H.length]? = some (.cells (rs (ints .u8 (t ++ [o]))) ty_tally_told 0) := by rw [hH3, List.getElem?_set_ne (by omega)]; exact g8
    have g39 : H3[H.length + 1]? = some (.cells (rs (ints .u8 A)) ty_tally_truth 0) := by rw [hH3, List.getElem?_set_self (by omega)]
    have hfind := findK_lk hA40 es 0 hes
    have e2' : eget s2.env 1 = v ∧ eget s2.env 5 = .omap M0.length ∧ eget s2.env 6 = bo true ∧ eget s2.env 8 = .own H.length 0 0 ∧ eget s2.env 9 = .own (H.length + 1) 0 0 ∧ eget s2.env 15 = .r (.sl (toldsC d ts) ts.length cap) ∧ eget s2.env 16 = i64 ts.length ∧ eget s2.env 17 = i64 i := by simpa [ekeep] using e2
    obtain ⟨f1, f5, f6, f8, f9, f15, f16, f17⟩ := e2'
    have hl8 : (rs (ints .u8 (t ++ [o]))).length = 41 := by rw [rs_len, ints_len]; simp [ht40]
    have hl9 : (rs (ints .u8 A)).length = 40 := by rw [rs_len, ints_len, hA40]
    have t9 : List.take 40 (rs (ints .u8 A)) = rs (ints .u8 A) := List.take_of_length_le (by omega)
    have t8 : List.take 1 (List.drop 40 (rs (ints .u8 (t ++ [o])))) = [u8 o] := by
      rw [take_one_ints (by simp; omega)]; simp [List.getElem?_append_right, ht40]
    have hans : ansO d ms (ts.drop i) = (A, o) :: ansO d ms (ts.drop (i + 1)) := by rw [hdrop, hAA, ho]; rfl
    obtain ⟨TC, hTC⟩ : ∃ TC, TC = toldsC d ts := ⟨_, rfl⟩
    obtain ⟨I8, hI8⟩ : ∃ I, I = ints .u8 (t ++ [o]) := ⟨_, rfl⟩
    obtain ⟨I9, hI9⟩ : ∃ I, I = ints .u8 A := ⟨_, rfl⟩
    obtain ⟨w, hw2⟩ : ∃ w, w = s2.m.wr := ⟨_, rfl⟩
    have hsm : s2.m = { h := H3, wr := w } := by rw [← m2, hw2]
    rw [hCs] at hta hH2 hC
    rw [← hTC] at hta htl hat f15 k2
    rw [← hI8] at hta hH2 hC g38 hl8 t8
    rw [← hI9] at g39 hl9 t9 hfind
    rw [← hw2] at w2
    have hZl : (rs z_tally_told).length = 41 := by rw [rs_len]; rfl
    have hZd : List.drop 41 (rs z_tally_told) = [] := List.drop_eq_nil_of_le (by omega)
    have hset : ∀ b, (H ++ [Blk.cells (rs z_tally_told) ty_tally_told 0]).set H.length b = H ++ [b] := fun b => by simp
    have hget : (H ++ [Blk.cells (rs z_tally_told) ty_tally_told 0])[H.length]? = some (Blk.cells (rs z_tally_told) ty_tally_told 0) := by simp
    have hH2' : (H ++ [Blk.cells (rs I8) ty_tally_told 0]) ++ [.cells (rs z_tally_truth) ty_tally_truth 0] = H2 := by rw [hH2]; simp
    obtain ⟨ZT, hZT⟩ : ∃ ZT, ZT = rs z_tally_told := ⟨_, rfl⟩
    rw [← hZT] at hZl hZd hset hget
    rw [hans]
    have hwM : ∀ x ∈ w, M0.length ≤ x := w2
    have htl' : (41 ≤ TC.length - i * 41) = True := eq_true (by rw [List.length_drop] at htl; exact htl)
    cases hlk : lkA A es 0 with
    | none =>
      rw [hlk] at hfind
      have hdec : decF es ((A, o) :: ansO d ms (ts.drop (i + 1))) = decF (es ++ [(A, o)]) (ansO d ms (ts.drop (i + 1))) := by
        conv => lhs; unfold decF
        rw [hlk]
      have hmap : mapC es ++ [(.agg I9, u8 o)] = mapC (es ++ [(A, o)]) := by rw [hI9]; unfold mapC; simp
      obtain ⟨H4, hH4⟩ : ∃ H4, H4 = H3.set M0.length (.map (mapC (es ++ [(A, o)]))) := ⟨_, rfl⟩
      obtain ⟨s', h1, h2, h3, h4, h5⟩ := ih (i + 1) (es ++ [(A, o)]) { s2 with env := [(1, v), (5, .omap M0.length), (6, bo true), (15, .r (.sl TC ts.length cap)), (16, i64 ts.length), (17, i64 (i + 1 : Nat))], m := { h := H4, wr := M0.length :: w } } (by omega) (by
        intro x hx
        rcases List.mem_append.1 hx with hx | hx
        · exact hes x hx
        · simp at hx; subst hx; exact hA40) (by rw [hTC]; simp) (by
        show H4.take (M0.length + 1) = _
        rw [hH4, List.take_set, hm3]; simp) (by
        intro x hx
        rcases List.mem_cons.1 hx with rfl | hx
        · exact Nat.le_refl _
        · exact hwM x hx) d2
      rw [hdec]
      refine ⟨s', .more (.ofN ⟨c2, fun n hn' => ?_⟩) h1, h2, h3, h4, h5⟩
      have k2 := k2 n hn'
      rw [he, ← hTC]
      simp [l_tally_decide_1, ← hMM, e0, w1, hat, load_agg, htl', hta, hC, ← hZT, hZl, hZd, rs_len, ← hH2, hAl, k2, hsm, f1, f5, f6, f8, f9, f15, f16, f17, gM, g38, g39, hl8, hl9, t9, t8, hfind, hmap, ← hH4]
    | some x =>
      obtain ⟨j, q⟩ := x
      rw [hlk] at hfind
      by_cases hq : q = o
      · subst hq
        have hdec : decF es ((A, q) :: ansO d ms (ts.drop (i + 1))) = decF es (ansO d ms (ts.drop (i + 1))) := by
          conv => lhs; unfold decF
          rw [hlk]; simp
        have hmap : (mapC es).set j (.agg I9, u8 q) = mapC es := by rw [hI9]; exact mapC_set hlk
        have hsame : H3.set M0.length (.map (mapC es)) = H3 := set_same gM
        obtain ⟨s', h1, h2, h3, h4, h5⟩ := ih (i + 1) es { s2 with env := [(1, v), (5, .omap M0.length), (6, bo true), (15, .r (.sl TC ts.length cap)), (16, i64 ts.length), (17, i64 (i + 1 : Nat))], m := { h := H3, wr := M0.length :: w } } (by omega) hes (by rw [hTC]; simp) hm3 (by
          intro x hx
          rcases List.mem_cons.1 hx with rfl | hx
          · exact Nat.le_refl _
          · exact hwM x hx) d2
        rw [hdec]
        refine ⟨s', .more (.ofN ⟨c2, fun n hn' => ?_⟩) h1, h2, h3, h4, h5⟩
        have k2 := k2 n hn'
        rw [he, ← hTC]
        simp [l_tally_decide_1, ← hMM, e0, w1, hat, load_agg, htl', hta, hC, ← hZT, hZl, hZd, rs_len, ← hH2, hAl, k2, hsm, f1, f5, f6, f8, f9, f15, f16, f17, gM, g38, g39, hl8, hl9, t9, t8, hfind, hmap, hsame]
      · have hdec : decF es ((A, o) :: ansO d ms (ts.drop (i + 1))) = false := by
          unfold decF
          rw [hlk]; simp [hq]
        have hq' : (q == o) = false := by simpa using hq
        rw [hdec]
        have hMm : H3.take M0.length = M0 := by
          have := congrArg (List.take M0.length) hm3
          rw [List.take_take, Nat.min_eq_left (by omega), List.take_left'] at this
          · exact this
          · rfl
        have hst : ∃ s', Den C l_tally_decide_1 { s with env := ekeep [1, 5, 6, 15, 16, 17] s.env } (.exit 0) s' ∧ eget s'.env 6 = bo false ∧ s'.m = { h := H3, wr := w } ∧ s'.defs = [] := by
          exact ⟨_, .ofN ⟨c2, fun n hn' => by
            have k2 := k2 n hn'
            rw [he, ← hTC]
            simp [l_tally_decide_1, ← hMM, e0, w1, hat, load_agg, htl', hta, hC, ← hZT, hZl, hZd, rs_len, ← hH2, hAl, k2, hsm, f1, f5, f6, f8, f9, f15, f16, f17, gM, g38, g39, hl8, hl9, t9, t8, hfind, hq', hq]
            rfl⟩, by simp, by simp, by simp [d2]⟩
        obtain ⟨s', h1, h2, h3, h4⟩ := hst
        exact ⟨s', .stop h1 (by simp), h2, by rw [h3]; exact hMm, by rw [h3]; exact hwM, h4⟩
end
end Go.AM.T
/- What the functions compute (own work). -/
namespace Go.AM.T
open Go Go.AM
attribute [local simp] so_mov so_pick so_alloc so_box so_build so_slit so_load so_store so_nilc so_bin so_beq so_eqs so_eqn so_eqnl so_not so_conv so_s2b so_mkfn so_slcA so_padd so_fld so_idxA so_idxV so_idxT so_look so_mupd so_mkmap so_mksl so_ext so_app so_lenT so_lenM so_min so_max so_cpy so_clr so_mkif so_tass so_lenS so_idxS so_slc
attribute [local simp] dn_skip dn_label dn_ret dn_exit dn_scope dn_keep dn_reg dn_draw0 noSlots denE denEI stepE  sd_mov sd_pick sd_build sd_load sd_store sd_nilc sd_bin sd_beq sd_eqs sd_eqn sd_eqnl sd_not sd_conv sd_s2b sd_mkfn sd_slc sd_slcA sd_padd sd_fld sd_idxS sd_idxA sd_idxV sd_idxT sd_look sd_mupd sd_ext sd_app sd_lenS sd_lenT sd_lenM sd_min sd_max sd_mkif sd_tass sd_call sd_slit dn_seq dn_cond dn_block dn_loop kn_call denIs denI denOp wants ev eget putD binL enumFrom AV.bool? AV.int? ekeep evs evp runV fin runDefs resAll resOf tupOf unit AV.cells okV ok1 Value.oneCell' fill setN rcells rs_nil rs_cons load_own load_cons mkAgg_rs storeN jmpOut
attribute [local simp] dvL dv1t dvAt mkAgg2 dv0 dv1 dv2 dv3 dv4 dv5 dv6 dv7 dv8 dv9 dv10 dvA dvN dvAll C_fz fzr
section
variable {d : Div} {ms : List Int} {v : AV}
theorem decide_spec (hms : ∀ x ∈ ms, 0 ≤ x ∧ x < 40) (hn : ms.length < 2 ^ 62) (hd40 : d.n ≤ 40) (e : openI d = 0) (m : Mem) (hA : ∀ H' : List Blk, H'.take m.h.length = m.h → Arr .i64 H' v ms) : CallR C (fnv fn_tally_decide) [.r (allV d), v] m (.ret (bo (decB d ms)) m) := by
  have hcnt := truthsOf_count e
  have hts := truthsOf_len hd40
  obtain ⟨s, l1, h2, h3, h4, h5⟩ := dec_outer (d := d) hms hn hts (by omega) (M0 := m.h) hA (hA m.h (by simp)).len none (truthsOf d).length 0 [] { env := [(17, i64 0), (16, i64 (truthsOf d).length), (15, .r (allV d)), (6, bo true), (0, .r (allV d)), (1, v), (5, .omap m.h.length)], m := { h := m.h ++ [.map []] } } (by omega) (by simp) (by simp [allV]) (by rw [List.take_of_length_le (by simp)]; rfl) (by simp) rfl
  obtain ⟨c1, k1⟩ := l1.get
  rw [List.drop_zero, show decF [] (ansO d ms (truthsOf d)) = decB d ms from rfl] at h2
  have hl : lenOf (.r (allV d)) = some (truthsOf d).length := rfl
  obtain ⟨V, hV⟩ : ∃ V, V = allV d := ⟨_, rfl⟩
  rw [← hV] at k1 hl ⊢
  exact CallR.eval (m1 := s.m) rfl rfl prog_tally_decide rfl ⟨c1, fun k hk => by simp [a_tally_decide, hl, k1 k hk, h2, h5]⟩ h3 h4
/-- A copy of a list of numbers. -/
theorem CloneI_spec {l : List Int} {v : AV} {m : Mem} (hl : l.length < 900000) (hv : v = .r .nil ∧ l = [] ∨ (∃ B g T cap, v = .osl B g 0 l.length 1 cap ∧ m.h[B]? = some (.cells (rs (ints .i64 l)) T g) ∧ 0 < l.length)) :
    CallR C (fnv fn_slices_Clone_Sint_int) [v] m (.ret (.r (slI l)) m) := by
  rcases hv with ⟨rfl, rfl⟩ | ⟨B, g, T, cap, rfl, hB, hpos⟩
  · exact CallR.eval0 rfl rfl prog_slices_Clone_Sint_int rfl ⟨0, fun k _ => by simp [a_slices_Clone_Sint_int, slI, gsV]⟩
  · have hsl : ∀ W, slCells { h := m.h, wr := W } (.osl B g 0 l.length 1 cap) 1 = some (rs (ints .i64 l), l.length) := fun W => by
      simp only [slCells, rcells, hB, if_true]
      rw [if_pos ⟨trivial, by rw [rs_len, ints_len]; omega⟩, List.drop_zero, List.take_of_length_le (by rw [rs_len, ints_len]; omega)]
    have happ : ∀ W, appendA { h := m.h, wr := W } ty_int 1 8 (.r (.sl [] 0 (some 0))) (.osl B g 0 l.length 1 cap) = some (.osl m.h.length 0 0 l.length 1 none, { h := m.h ++ [.cells (rs (ints .i64 l)) ty_int 0], wr := W }) := fun W => by
      unfold appendA
      rw [hsl]
      simp only
      rw [if_neg (by omega), if_pos ⟨by omega, rfl, by simp [roomOk]; omega⟩]
      simp [rs]
    have hz : ∀ W, fz { h := m.h ++ [.cells (rs (ints .i64 l)) ty_int 0], wr := W } m.h.length 1000000 (.osl m.h.length 0 0 l.length 1 none) = some (.r (.sl (ints .i64 l) l.length none)) := fun W => fz_osl (t := ty_int) (g := 0) (by simp) (Nat.le_refl _) (by rw [ints_len]; omega) (by rw [ints_len]; omega)
    have hs : slI l = .sl (ints .i64 l) l.length none := by unfold slI gsV; rw [if_neg (by omega)]
    obtain ⟨I, hI⟩ : ∃ I, I = ints .i64 l := ⟨_, rfl⟩
    obtain ⟨n, hn⟩ : ∃ n, n = l.length := ⟨_, rfl⟩
    rw [hs]
    rw [← hI] at happ hz ⊢
    rw [← hn] at happ hz ⊢
    exact CallR.eval (m1 := { h := m.h ++ [.cells (rs I) ty_int 0], wr := [] }) rfl rfl prog_slices_Clone_Sint_int rfl ⟨0, fun k _ => by simp [a_slices_Clone_Sint_int, allR, repl, happ, hz]⟩ (by simp) (by simp)
/-- The function that tries members. -/
def chV (F T D Ch : Nat) : AV := .fn fn_tally_Ask_1 [] [.own F 0 0, .own T 1 0, .own D 1 0, .own Ch 0 0]
/-- A list of members that a heap has. -/
def Now (H : List Blk) (v : AV) (l : List Int) : Prop := v = .r .nil ∧ l = [] ∨ (∃ B g T cap, v = .osl B g 0 l.length 1 cap ∧ H[B]? = some (.cells (rs (ints .i64 l)) T g) ∧ 0 < l.length)
theorem Now.arr {H : List Blk} {v : AV} {l : List Int} (h : Now H v l) : Arr .i64 H v l := by
  rcases h with ⟨rfl, rfl⟩ | ⟨B, g, T, cap, rfl, hB, _⟩
  · exact Arr.ofSl Sl.nil
  · exact Arr.osl hB
theorem Now.keep {H H' : List Blk} {v : AV} {l : List Int} (h : Now H v l) (hk : ∀ (j : Nat) (T : TypeId) (g : Nat), H[j]? = some (Blk.cells (rs (ints .i64 l)) T g) → H'[j]? = some (Blk.cells (rs (ints .i64 l)) T g)) : Now H' v l := by
  rcases h with h | ⟨B, g, T, cap, h1, hB, h2⟩
  · exact .inl h
  · exact .inr ⟨B, g, T, cap, h1, hk _ _ _ hB, h2⟩
end
end Go.AM.T
/- What the functions compute (own work). -/
namespace Go.AM.T
open Go Go.AM
attribute [local simp] so_mov so_pick so_alloc so_box so_build so_slit so_load so_store so_nilc so_bin so_beq so_eqs so_eqn so_eqnl so_not so_conv so_s2b so_mkfn so_slcA so_padd so_fld so_idxA so_idxV so_idxT so_look so_mupd so_mkmap so_mksl so_ext so_app so_lenT so_lenM so_min so_max so_cpy so_clr so_mkif so_tass so_lenS so_idxS so_slc
attribute [local simp] dn_skip dn_label dn_ret dn_exit dn_scope dn_keep dn_reg dn_draw0 noSlots denE denEI stepE  sd_mov sd_pick sd_build sd_load sd_store sd_nilc sd_bin sd_beq sd_eqs sd_eqn sd_eqnl sd_not sd_conv sd_s2b sd_mkfn sd_slc sd_slcA sd_padd sd_fld sd_idxS sd_idxA sd_idxV sd_idxT sd_look sd_mupd sd_ext sd_app sd_lenS sd_lenT sd_lenM sd_min sd_max sd_mkif sd_tass sd_call sd_slit dn_seq dn_cond dn_block dn_loop kn_call denIs denI denOp wants ev eget putD binL enumFrom AV.bool? AV.int? ekeep evs evp runV fin runDefs resAll resOf tupOf unit AV.cells okV ok1 Value.oneCell' fill setN rcells rs_nil rs_cons load_own load_cons mkAgg_rs storeN jmpOut
attribute [local simp] dvL dv1t dvAt mkAgg2 dv0 dv1 dv2 dv3 dv4 dv5 dv6 dv7 dv8 dv9 dv10 dvA dvN dvAll C_fz fzr
theorem tg_pad (u : List Int) (i : Nat) : tg (pad u) i = tg u i := by
  unfold tg pad
  rw [List.getD_eq_getElem?_getD, List.getD_eq_getElem?_getD]
  by_cases h : i < u.length
  · rw [List.getElem?_append_left h]
  · rw [List.getElem?_append_right (by omega), List.getElem?_eq_none (by omega : u.length ≤ i)]
    by_cases h2 : i - u.length < 40 - u.length
    · rw [List.getElem?_replicate, if_pos h2]; rfl
    · rw [List.getElem?_replicate, if_neg h2]
theorem nums_pad (d : Div) (u : List Int) : numsL d (pad u) = numsL d u := by
  have h1 : memStep d (pad u) = memStep d u := by
    funext n i; unfold memStep; rw [tg_pad]
  have h2 : proxStep d (pad u) = proxStep d u := by
    funext n x; unfold proxStep; rw [tg_pad, tg_pad]
  unfold numsL numsM
  rw [h1, h2]
/-- What the law reckons: both ranges, out of numbers. -/
def lwStep (s : (Int × Int) × (Int × Int)) (n : Int × Int) : (Int × Int) × (Int × Int) := ((mn s.1.1 n.1, mx s.1.2 n.1), (mn s.2.1 n.2, mx s.2.2 n.2))
def lw0 (n : Int × Int) : (Int × Int) × (Int × Int) := ((n.1, n.1), (n.2, n.2))
def lwL : List (Int × Int) → (Int × Int) × (Int × Int)
  | [] => ((0, 0), (0, 0))
  | n :: l => l.foldl lwStep (lw0 n)
theorem bn_lw (d : Div) : ∀ (l : List (List Int)) (s : Bn), s.first = false → (s.a.1 ≤ s.last.1 ∧ s.last.1 ≤ s.a.2) → (s.b.1 ≤ s.last.2 ∧ s.last.2 ≤ s.b.2) →
    (foldS (bnStep d) s l).1.a = ((l.map (numsL d)).foldl lwStep (s.a, s.b)).1 ∧ (foldS (bnStep d) s l).1.b = ((l.map (numsL d)).foldl lwStep (s.a, s.b)).2
  | [], s, _, _, _ => ⟨rfl, rfl⟩
  | t :: l, s, hf, ha, hb => by
    rw [foldS_cons, if_pos (bnStep_2 d s t), List.map_cons, List.foldl_cons]
    have hs : (bnStep d s t).1 = ⟨false, (mn s.a.1 (numsL d t).1, mx s.a.2 (numsL d t).1), (mn s.b.1 (numsL d t).2, mx s.b.2 (numsL d t).2), numsL d t⟩ := by
      unfold bnStep
      rw [if_neg (by simp [hf])]
      split
      · rename_i e
        rw [e]
        have h1 : mn s.a.1 s.last.1 = s.a.1 := by unfold mn; split <;> omega
        have h2 : mx s.a.2 s.last.1 = s.a.2 := by unfold mx; split <;> omega
        have h3 : mn s.b.1 s.last.2 = s.b.1 := by unfold mn; split <;> omega
        have h4 : mx s.b.2 s.last.2 = s.b.2 := by unfold mx; split <;> omega
        rw [h1, h2, h3, h4]
      · rfl
    have ih := bn_lw d l (bnStep d s t).1 (by rw [hs]) (by
      rw [hs]; simp only [mn, mx]
      constructor <;> split <;> omega) (by
      rw [hs]; simp only [mn, mx]
      constructor <;> split <;> omega)
    rw [hs] at ih ⊢
    exact ih
theorem bnL_lw {d : Div} (ho : openI d = 0) : (bnL d).a = (lwL ((rtOf d).map (numsL d))).1 ∧ (bnL d).b = (lwL ((rtOf d).map (numsL d))).2 := by
  have hn := right_n (openI0 ho).1
  have hne := truthsOf_ne ho
  unfold bnL
  have hm : (rtOf d).map (numsL d) = (truthsOf d).map (numsL d) := by
    rw [truthsOf_rt hn.2, List.map_map]
    refine List.map_congr_left fun u _ => ?_
    show _ = numsL d (pad u)
    rw [nums_pad]
  rw [hm]
  cases ht : truthsOf d with
  | nil => exact absurd ht hne
  | cons t l =>
    rw [foldS_cons, if_pos (bnStep_2 d _ t), List.map_cons]
    have hs : (bnStep d bn0 t).1 = ⟨false, ((numsL d t).1, (numsL d t).1), ((numsL d t).2, (numsL d t).2), numsL d t⟩ := by unfold bnStep bn0; rfl
    have := bn_lw d l (bnStep d bn0 t).1 (by rw [hs]) (by rw [hs]; exact ⟨Int.le_refl _, Int.le_refl _⟩) (by rw [hs]; exact ⟨Int.le_refl _, Int.le_refl _⟩)
    rw [hs] at this ⊢
    exact this
theorem rt_ok {d : Div} : ∀ u ∈ rtOf d, u.length = d.n.toNat ∧ VOk u := fun u hu => ⟨by have := rtF_len _ _ _ hu; simpa using this, rtF_ok _ _ _ (by simp [VOk]) hu⟩
theorem rtOf_ne {d : Div} (ho : openI d = 0) : rtOf d ≠ [] := by
  have h := truthsOf_ne ho
  rw [truthsOf_rt (right_n (openI0 ho).1).2] at h
  simpa using h
theorem find_range {α : Type} (l : List α) (x0 : α) (p : α → Bool) : l.find? p = ((List.range l.length).find? fun j => p (l.getD j x0)).map fun j => l.getD j x0 := by
  induction l with
  | nil => rfl
  | cons x l ih =>
    rw [List.find?_cons, List.length_cons, List.range_succ_eq_map, List.find?_cons]
    have h0 : (x :: l).getD 0 x0 = x := rfl
    rw [h0]
    cases hp : p x with
    | true => rfl
    | false =>
      rw [ih, List.find?_map]
      have : ((fun j => p ((x :: l).getD j x0)) ∘ Nat.succ) = fun j => p (l.getD j x0) := by funext j; rfl
      rw [this, Option.map_map]
      rfl
theorem any_range {α : Type} (l : List α) (x0 : α) (p : α → Bool) : ((List.range l.length).any fun j => p (l.getD j x0)) = l.any p := by
  have h := find_range l x0 p
  have e1 : (l.find? p).isSome = l.any p := by rw [Bool.eq_iff_iff, List.find?_isSome, List.any_eq_true]
  have e2 : ((List.range l.length).find? fun j => p (l.getD j x0)).isSome = (List.range l.length).any fun j => p (l.getD j x0) := by rw [Bool.eq_iff_iff, List.find?_isSome, List.any_eq_true]
  rw [← e1, ← e2, h]; simp
theorem alL_rt {d : Div} (h : d.n ≤ 40) (o : Int) : (alL d).contains o = (rtOf d).any fun u => outcomeI d (numsL d u) == o := by
  rw [Bool.eq_iff_iff, List.any_eq_true]
  rw [List.contains_iff_mem, alL_mem, truthsOf_rt h]
  constructor
  · rintro ⟨t, ht, e⟩
    obtain ⟨u, hu, rfl⟩ := List.mem_map.1 ht
    exact ⟨u, hu, by rw [nums_pad] at e; simp [e]⟩
  · rintro ⟨u, hu, e⟩
    exact ⟨pad u, List.mem_map.2 ⟨u, hu, rfl⟩, by rw [nums_pad]; simpa using e⟩
theorem openI_1 (d : Div) : openI d = 1 ↔ rightB d = false := by
  unfold openI faultI
  cases rightB d with
  | false => simp
  | true =>
    cases (clashB d).isSome with
    | true => simp
    | false => by_cases h : 8 < (doubtsL d).length <;> simp [h]
end Go.AM.T
/- What the functions compute (own work). -/
namespace Go.AM.T
open Go Go.AM
attribute [local simp] so_mov so_pick so_alloc so_box so_build so_slit so_load so_store so_nilc so_bin so_beq so_eqs so_eqn so_eqnl so_not so_conv so_s2b so_mkfn so_slcA so_padd so_fld so_idxA so_idxV so_idxT so_look so_mupd so_mkmap so_mksl so_ext so_app so_lenT so_lenM so_min so_max so_cpy so_clr so_mkif so_tass so_lenS so_idxS so_slc
attribute [local simp] dn_skip dn_label dn_ret dn_exit dn_scope dn_keep dn_reg dn_draw0 noSlots denE denEI stepE  sd_mov sd_pick sd_build sd_load sd_store sd_nilc sd_bin sd_beq sd_eqs sd_eqn sd_eqnl sd_not sd_conv sd_s2b sd_mkfn sd_slc sd_slcA sd_padd sd_fld sd_idxS sd_idxA sd_idxV sd_idxT sd_look sd_mupd sd_ext sd_app sd_lenS sd_lenT sd_lenM sd_min sd_max sd_mkif sd_tass sd_call sd_slit dn_seq dn_cond dn_block dn_loop kn_call denIs denI denOp wants ev eget putD binL enumFrom AV.bool? AV.int? ekeep evs evp runV fin runDefs resAll resOf tupOf unit AV.cells okV ok1 Value.oneCell' fill setN rcells rs_nil rs_cons load_own load_cons mkAgg_rs storeN jmpOut
attribute [local simp] dvL dv1t dvAt mkAgg2 dv0 dv1 dv2 dv3 dv4 dv5 dv6 dv7 dv8 dv9 dv10 dvA dvN dvAll C_fz fzr
theorem has_u8 {x : RV} (h : Has (.int .u8) [x]) : ∃ n, x = .lit (.int .u8 n) ∧ (0 ≤ n ∧ n ≤ 255) := by
  obtain ⟨n, e, w⟩ := has_int h
  cases e
  have e1 : IntKind.min .u8 = 0 := by decide
  have e2 : IntKind.max .u8 = 255 := by decide
  exact ⟨n, rfl, by simpa [Lit.wf, e1, e2] using w⟩
theorem has_u32 {x : RV} (h : Has (.int .u32) [x]) : ∃ n, x = .lit (.int .u32 n) ∧ (0 ≤ n ∧ n ≤ 4294967295) := by
  obtain ⟨n, e, w⟩ := has_int h
  cases e
  have e1 : IntKind.min .u32 = 0 := by decide
  have e2 : IntKind.max .u32 = 4294967295 := by decide
  exact ⟨n, rfl, by simpa [Lit.wf, e1, e2] using w⟩
theorem has_bool {x : RV} (h : Has .bool [x]) : ∃ b, x = .lit (.bool b) := by
  simp only [Has] at h
  obtain ⟨b, e⟩ := h
  cases e
  exact ⟨b, rfl⟩
theorem has_Sint {x : RV} (h : Has (.sl (.int .i64)) [x]) : ∃ l, SlI l x ∧ l.length < 2 ^ 63 := by
  obtain ⟨v, l, e, s, hl⟩ := has_ints h
  cases e
  exact ⟨l, s, hl⟩
theorem parts_u8 : ∀ (n : Nat) (xs : List RV), Parts (Has (.int .u8)) n xs → ∃ l : List Int, xs = ints .u8 l ∧ l.length = n ∧ ∀ x ∈ l, 0 ≤ x ∧ x ≤ 255
  | 0, xs, h => ⟨[], by simp only [Parts] at h; rw [h]; rfl, rfl, by simp⟩
  | n + 1, xs, h => by
    obtain ⟨a, b, rfl, ⟨x, rfl, w⟩, h2⟩ := h
    obtain ⟨l, rfl, e, hl⟩ := parts_u8 n b h2
    have e1 : IntKind.min .u8 = 0 := by decide
    have e2 : IntKind.max .u8 = 255 := by decide
    refine ⟨x :: l, rfl, by simp [e], fun y hy => ?_⟩
    rcases List.mem_cons.1 hy with rfl | hy
    · simpa [Lit.wf, e1, e2] using w
    · exact hl y hy
theorem has_Su8 {x : RV} (h : Has (.sl (.int .u8)) [x]) : ∃ l, (Sl (ints .u8 l) l.length x ∧ ∀ y ∈ l, 0 ≤ y ∧ y ≤ 255) ∧ l.length < 2 ^ 63 := by
  unfold Has at h
  rcases h with e | ⟨cs, len, e, hm, h⟩
  · cases e
    exact ⟨[], ⟨Sl.nil, by simp⟩, by simp⟩
  · cases e
    obtain ⟨l, rfl, rfl, hl⟩ := parts_u8 _ _ h
    exact ⟨l, ⟨Sl.mk _ _ _, hl⟩, by have := maxLt; omega⟩
end Go.AM.T
/- What the functions compute (own work). -/
namespace Go.AM.T
open Go Go.AM
attribute [local simp] so_mov so_pick so_alloc so_box so_build so_slit so_load so_store so_nilc so_bin so_beq so_eqs so_eqn so_eqnl so_not so_conv so_s2b so_mkfn so_slcA so_padd so_fld so_idxA so_idxV so_idxT so_look so_mupd so_mkmap so_mksl so_ext so_app so_lenT so_lenM so_min so_max so_cpy so_clr so_mkif so_tass so_lenS so_idxS so_slc
attribute [local simp] dn_skip dn_label dn_ret dn_exit dn_scope dn_keep dn_reg dn_draw0 noSlots denE denEI stepE  sd_mov sd_pick sd_build sd_load sd_store sd_nilc sd_bin sd_beq sd_eqs sd_eqn sd_eqnl sd_not sd_conv sd_s2b sd_mkfn sd_slc sd_slcA sd_padd sd_fld sd_idxS sd_idxA sd_idxV sd_idxT sd_look sd_mupd sd_ext sd_app sd_lenS sd_lenT sd_lenM sd_min sd_max sd_mkif sd_tass sd_call sd_slit dn_seq dn_cond dn_block dn_loop kn_call denIs denI denOp wants ev eget putD binL enumFrom AV.bool? AV.int? ekeep evs evp runV fin runDefs resAll resOf tupOf unit AV.cells okV ok1 Value.oneCell' fill setN rcells rs_nil rs_cons load_own load_cons mkAgg_rs storeN jmpOut
attribute [local simp] dvL dv1t dvAt mkAgg2 dv0 dv1 dv2 dv3 dv4 dv5 dv6 dv7 dv8 dv9 dv10 dvA dvN dvAll C_fz fzr
/-- The same division, but that its members may have fewer votes. -/
structure SubD (e d : Div) : Prop where
  n : e.n = d.n
  pairs : e.pairs = d.pairs
  proxies : e.proxies = d.proxies
  rule : e.rule = d.rule
  need : e.need = d.need
  quorum : e.quorum = d.quorum
  tie : e.tie = d.tie
  may : ∀ x v, v ∈ may e x → v ∈ may d x
section
variable {e d : Div}
theorem SubD.nums (h : SubD e d) (t : List Int) : numsL e t = numsL d t := by
  have h1 : memStep e t = memStep d t := by funext n i; unfold memStep; rw [h.pairs]
  have h2 : proxStep e t = proxStep d t := by funext n x; unfold proxStep; rw [h.pairs]
  unfold numsL numsM
  rw [h1, h2, h.proxies, h.n]
theorem SubD.outcome (h : SubD e d) (n : Int × Int) : outcomeI e n = outcomeI d n := by
  unfold outcomeI carriedB
  rw [h.quorum, h.rule, h.need, h.tie]
theorem SubD.rt (h : SubD e d) : ∀ (r : Nat) (b u : List Int), u ∈ rtF e r b → u ∈ rtF d r b
  | 0, b, u, hu => hu
  | r + 1, b, u, hu => by
    unfold rtF at hu ⊢
    obtain ⟨v, hv, hu⟩ := List.mem_flatMap.1 hu
    exact List.mem_flatMap.2 ⟨v, h.may _ _ hv, h.rt r _ u hu⟩
theorem SubD.rtOf (h : SubD e d) {u : List Int} (hu : u ∈ rtOf e) : u ∈ T.rtOf d := by
  unfold T.rtOf at hu ⊢
  rw [h.n] at hu
  exact h.rt _ _ _ hu
theorem SubD.len (h : SubD e d) (x : Int) : (T.may e x).length ≤ (T.may d x).length := by
  rw [← may_filter e, ← may_filter d, ← List.countP_eq_length_filter, ← List.countP_eq_length_filter]
  refine List.countP_mono_left fun v _ hv => ?_
  have := h.may x v (by simpa using hv)
  simpa using this
theorem SubD.doubts (h : SubD e d) : (doubtsL e).length ≤ (doubtsL d).length := by
  unfold doubtsL
  rw [List.length_map, List.length_map, ← List.countP_eq_length_filter, ← List.countP_eq_length_filter, h.n]
  refine List.countP_mono_left fun i _ hi => ?_
  have := h.len i
  simp at hi ⊢
  omega
theorem SubD.open_ (h : SubD e d) (ho : openI d = 0) (hr : rightB e = true) : openI e = if (clashB e).isSome then 9 else 0 := by
  have hd := (openI0 ho).2.2
  have := h.doubts
  unfold openI faultI
  rw [if_pos hr]
  by_cases hs : (clashB e).isSome = true
  · rw [if_pos hs, if_neg (by decide)]
  · rw [if_neg hs, if_pos rfl, if_neg (by omega)]
theorem SubD.al (h : SubD e d) (hn : d.n ≤ 40) {o : Int} (ho : o ∈ alS e) : o ∈ alS d := by
  unfold alS at ho ⊢
  rw [List.mem_filter] at ho ⊢
  refine ⟨ho.1, ?_⟩
  have h2 := ho.2
  rw [alL_rt (by rw [h.n]; exact hn), List.any_eq_true] at h2
  obtain ⟨u, hu, hx⟩ := h2
  rw [alL_rt hn, List.any_eq_true]
  exact ⟨u, h.rtOf hu, by rw [← h.nums, ← h.outcome]; exact hx⟩
/-- The bounds are bounds, and some number is at them. -/
theorem lw_le : ∀ (l : List (Int × Int)) (s : (Int × Int) × (Int × Int)),
    ((l.foldl lwStep s).1.1 ≤ s.1.1 ∧ s.1.2 ≤ (l.foldl lwStep s).1.2 ∧ (l.foldl lwStep s).2.1 ≤ s.2.1 ∧ s.2.2 ≤ (l.foldl lwStep s).2.2) ∧
    ∀ n ∈ l, (l.foldl lwStep s).1.1 ≤ n.1 ∧ n.1 ≤ (l.foldl lwStep s).1.2 ∧ (l.foldl lwStep s).2.1 ≤ n.2 ∧ n.2 ≤ (l.foldl lwStep s).2.2
  | [], s => by simp
  | n :: l, s => by
    have ih := lw_le l (lwStep s n)
    have h1 : (lwStep s n).1.1 ≤ s.1.1 ∧ s.1.2 ≤ (lwStep s n).1.2 ∧ (lwStep s n).2.1 ≤ s.2.1 ∧ s.2.2 ≤ (lwStep s n).2.2 ∧ (lwStep s n).1.1 ≤ n.1 ∧ n.1 ≤ (lwStep s n).1.2 ∧ (lwStep s n).2.1 ≤ n.2 ∧ n.2 ≤ (lwStep s n).2.2 := by
      unfold lwStep mn mx
      refine ⟨?_, ?_, ?_, ?_, ?_, ?_, ?_, ?_⟩ <;> simp only <;> split <;> omega
    rw [List.foldl_cons]
    refine ⟨by omega, fun x hx => ?_⟩
    rcases List.mem_cons.1 hx with rfl | hx
    · omega
    · exact ih.2 x hx
theorem lw_at : ∀ (l : List (Int × Int)) (s : (Int × Int) × (Int × Int)),
    ((l.foldl lwStep s).1.1 = s.1.1 ∨ ∃ n ∈ l, (l.foldl lwStep s).1.1 = n.1) ∧ ((l.foldl lwStep s).1.2 = s.1.2 ∨ ∃ n ∈ l, (l.foldl lwStep s).1.2 = n.1) ∧
    ((l.foldl lwStep s).2.1 = s.2.1 ∨ ∃ n ∈ l, (l.foldl lwStep s).2.1 = n.2) ∧ ((l.foldl lwStep s).2.2 = s.2.2 ∨ ∃ n ∈ l, (l.foldl lwStep s).2.2 = n.2)
  | [], s => by simp
  | n :: l, s => by
    have ih := lw_at l (lwStep s n)
    rw [List.foldl_cons]
    have h1 : ((lwStep s n).1.1 = s.1.1 ∨ (lwStep s n).1.1 = n.1) ∧ ((lwStep s n).1.2 = s.1.2 ∨ (lwStep s n).1.2 = n.1) ∧ ((lwStep s n).2.1 = s.2.1 ∨ (lwStep s n).2.1 = n.2) ∧ ((lwStep s n).2.2 = s.2.2 ∨ (lwStep s n).2.2 = n.2) := by
      unfold lwStep mn mx
      refine ⟨?_, ?_, ?_, ?_⟩ <;> simp only <;> split <;> simp
    obtain ⟨i1, i2, i3, i4⟩ := ih
    obtain ⟨j1, j2, j3, j4⟩ := h1
    refine ⟨?_, ?_, ?_, ?_⟩
    · rcases i1 with i | ⟨x, hx, i⟩
      · rcases j1 with j | j
        · exact .inl (i.trans j)
        · exact .inr ⟨n, by simp, i.trans j⟩
      · exact .inr ⟨x, by simp [hx], i⟩
    · rcases i2 with i | ⟨x, hx, i⟩
      · rcases j2 with j | j
        · exact .inl (i.trans j)
        · exact .inr ⟨n, by simp, i.trans j⟩
      · exact .inr ⟨x, by simp [hx], i⟩
    · rcases i3 with i | ⟨x, hx, i⟩
      · rcases j3 with j | j
        · exact .inl (i.trans j)
        · exact .inr ⟨n, by simp, i.trans j⟩
      · exact .inr ⟨x, by simp [hx], i⟩
    · rcases i4 with i | ⟨x, hx, i⟩
      · rcases j4 with j | j
        · exact .inl (i.trans j)
        · exact .inr ⟨n, by simp, i.trans j⟩
      · exact .inr ⟨x, by simp [hx], i⟩
/-- All numbers are in the bounds. -/
theorem bn_in (ho : openI d = 0) {u : List Int} (hu : u ∈ T.rtOf d) : (bnL d).a.1 ≤ (numsL d u).1 ∧ (numsL d u).1 ≤ (bnL d).a.2 ∧ (bnL d).b.1 ≤ (numsL d u).2 ∧ (numsL d u).2 ≤ (bnL d).b.2 := by
  obtain ⟨h1, h2⟩ := bnL_lw ho
  rw [h1, h2]
  have hm : numsL d u ∈ (T.rtOf d).map (numsL d) := List.mem_map_of_mem hu
  cases hl : (T.rtOf d).map (numsL d) with
  | nil => rw [hl] at hm; cases hm
  | cons n l =>
    rw [hl] at hm
    have := lw_le l (lw0 n)
    unfold lwL
    rcases List.mem_cons.1 hm with h | h
    · rw [h]; simp only [lw0] at this ⊢; omega
    · exact this.2 _ h
theorem bn_at (ho : openI d = 0) : (∃ u ∈ T.rtOf d, (bnL d).a.1 = (numsL d u).1) ∧ (∃ u ∈ T.rtOf d, (bnL d).a.2 = (numsL d u).1) ∧ (∃ u ∈ T.rtOf d, (bnL d).b.1 = (numsL d u).2) ∧ (∃ u ∈ T.rtOf d, (bnL d).b.2 = (numsL d u).2) := by
  obtain ⟨h1, h2⟩ := bnL_lw ho
  have hne := rtOf_ne ho
  rw [h1, h2]
  cases hr : T.rtOf d with
  | nil => exact absurd hr hne
  | cons u us =>
    rw [List.map_cons]
    unfold lwL
    obtain ⟨i1, i2, i3, i4⟩ := lw_at (us.map (numsL d)) (lw0 (numsL d u))
    refine ⟨?_, ?_, ?_, ?_⟩
    · rcases i1 with i | ⟨x, hx, i⟩
      · exact ⟨u, by simp, i⟩
      · obtain ⟨w, hw, rfl⟩ := List.mem_map.1 hx
        exact ⟨w, by simp [hw], i⟩
    · rcases i2 with i | ⟨x, hx, i⟩
      · exact ⟨u, by simp, i⟩
      · obtain ⟨w, hw, rfl⟩ := List.mem_map.1 hx
        exact ⟨w, by simp [hw], i⟩
    · rcases i3 with i | ⟨x, hx, i⟩
      · exact ⟨u, by simp, i⟩
      · obtain ⟨w, hw, rfl⟩ := List.mem_map.1 hx
        exact ⟨w, by simp [hw], i⟩
    · rcases i4 with i | ⟨x, hx, i⟩
      · exact ⟨u, by simp, i⟩
      · obtain ⟨w, hw, rfl⟩ := List.mem_map.1 hx
        exact ⟨w, by simp [hw], i⟩
theorem SubD.bn (h : SubD e d) (ho : openI d = 0) (ho' : openI e = 0) : (bnL d).a.1 ≤ (bnL e).a.1 ∧ (bnL e).a.2 ≤ (bnL d).a.2 ∧ (bnL d).b.1 ≤ (bnL e).b.1 ∧ (bnL e).b.2 ≤ (bnL d).b.2 := by
  obtain ⟨⟨u1, m1, e1⟩, ⟨u2, m2, e2⟩, ⟨u3, m3, e3⟩, ⟨u4, m4, e4⟩⟩ := bn_at ho'
  rw [e1, e2, e3, e4, h.nums, h.nums, h.nums, h.nums]
  have b1 := bn_in ho (h.rtOf m1)
  have b2 := bn_in ho (h.rtOf m2)
  have b3 := bn_in ho (h.rtOf m3)
  have b4 := bn_in ho (h.rtOf m4)
  omega
end
end Go.AM.T
/- What the functions compute (own work). -/
namespace Go.AM.T
open Go Go.AM
attribute [local simp] so_mov so_pick so_alloc so_box so_build so_slit so_load so_store so_nilc so_bin so_beq so_eqs so_eqn so_eqnl so_not so_conv so_s2b so_mkfn so_slcA so_padd so_fld so_idxA so_idxV so_idxT so_look so_mupd so_mkmap so_mksl so_ext so_app so_lenT so_lenM so_min so_max so_cpy so_clr so_mkif so_tass so_lenS so_idxS so_slc
attribute [local simp] dn_skip dn_label dn_ret dn_exit dn_scope dn_keep dn_reg dn_draw0 noSlots denE denEI stepE  sd_mov sd_pick sd_build sd_load sd_store sd_nilc sd_bin sd_beq sd_eqs sd_eqn sd_eqnl sd_not sd_conv sd_s2b sd_mkfn sd_slc sd_slcA sd_padd sd_fld sd_idxS sd_idxA sd_idxV sd_idxT sd_look sd_mupd sd_ext sd_app sd_lenS sd_lenT sd_lenM sd_min sd_max sd_mkif sd_tass sd_call sd_slit dn_seq dn_cond dn_block dn_loop kn_call denIs denI denOp wants ev eget putD binL enumFrom AV.bool? AV.int? ekeep evs evp runV fin runDefs resAll resOf tupOf unit AV.cells okV ok1 Value.oneCell' fill setN rcells rs_nil rs_cons load_own load_cons mkAgg_rs storeN jmpOut
attribute [local simp] dvL dv1t dvAt mkAgg2 dv0 dv1 dv2 dv3 dv4 dv5 dv6 dv7 dv8 dv9 dv10 dvA dvN dvAll C_fz fzr
section
variable {d : Div} {a0 a1 n0 n1 p q : RV}
theorem ready_spec (hs : DivS d a0 a1 n0 n1 p q) (hb : Small d) (m : Mem) : CallR C (fnv fn_law07_ready) [.r (.agg (divC d a0 a1 n0 n1 p q))] m (.ret (bo (fewB d && decide (openI d = 0))) m) := by
  obtain ⟨H, hH⟩ : ∃ H, H = m.h ++ [.cells (rs (divC d a0 a1 n0 n1 p q)) ty_ref07_Division 0] := ⟨_, rfl⟩
  have hc : H[m.h.length]? = some (.cells (rs (divC d a0 a1 n0 n1 p q)) ty_ref07_Division 0) := by simp [hH]
  have ht : H.take m.h.length = m.h := by simp [hH]
  have hd11 : (divC d a0 a1 n0 n1 p q).length = 11 := rfl
  obtain ⟨c0, k0⟩ := Few_spec hs { h := H }
  obtain ⟨c1, k1⟩ := lawopen_spec hs hb { h := H }
  cases ef : fewB d with
  | false =>
    rw [ef] at k0
    exact CallR.eval (m1 := { h := H }) rfl rfl prog_law07_ready rfl ⟨c0, fun k hk => by simp [a_law07_ready, ← hH, hc, hd11, k0 k (by omega)]⟩ ht (by simp)
  | true =>
    rw [ef] at k0
    obtain ⟨z, hz⟩ : ∃ z, z = openI d := ⟨_, rfl⟩
    rw [← hz] at k1 ⊢
    refine CallR.eval (m1 := { h := H }) rfl rfl prog_law07_ready rfl ⟨c0 + c1, fun k hk => ?_⟩ ht (by simp)
    by_cases e : z = 0
    · simp [a_law07_ready, ← hH, hc, hd11, k0 k (by omega), k1 k (by omega), e]
    · have e' : (z == 0) = false := by simpa using e
      simp [a_law07_ready, ← hH, hc, hd11, k0 k (by omega), k1 k (by omega), e, e']
end
end Go.AM.T
/- What the functions compute (own work). -/
namespace Go.AM.T
open Go Go.AM
attribute [local simp] so_mov so_pick so_alloc so_box so_build so_slit so_load so_store so_nilc so_bin so_beq so_eqs so_eqn so_eqnl so_not so_conv so_s2b so_mkfn so_slcA so_padd so_fld so_idxA so_idxV so_idxT so_look so_mupd so_mkmap so_mksl so_ext so_app so_lenT so_lenM so_min so_max so_cpy so_clr so_mkif so_tass so_lenS so_idxS so_slc
attribute [local simp] dn_skip dn_label dn_ret dn_exit dn_scope dn_keep dn_reg dn_draw0 noSlots denE denEI stepE  sd_mov sd_pick sd_build sd_load sd_store sd_nilc sd_bin sd_beq sd_eqs sd_eqn sd_eqnl sd_not sd_conv sd_s2b sd_mkfn sd_slc sd_slcA sd_padd sd_fld sd_idxS sd_idxA sd_idxV sd_idxT sd_look sd_mupd sd_ext sd_app sd_lenS sd_lenT sd_lenM sd_min sd_max sd_mkif sd_tass sd_call sd_slit dn_seq dn_cond dn_block dn_loop kn_call denIs denI denOp wants ev eget putD binL enumFrom AV.bool? AV.int? ekeep evs evp runV fin runDefs resAll resOf tupOf unit AV.cells okV ok1 Value.oneCell' fill setN rcells rs_nil rs_cons load_own load_cons mkAgg_rs storeN jmpOut
attribute [local simp] dvL dv1t dvAt mkAgg2 dv0 dv1 dv2 dv3 dv4 dv5 dv6 dv7 dv8 dv9 dv10 dvA dvN dvAll C_fz fzr
theorem sd_slot (K : Kit) (base : Nat) (e : Env) (h : List Blk) (k : Nat) (t : TypeId) (z : List RV) : stepD K base e h (.slot k t z) = match h[base + k]? with
    | some .dead => some (.own (base + k) 1 0, { h := h.set (base + k) (.cells (rs z) t 1), wr := [base + k] })
    | _ => none := rfl
/-- The machine where the function that tries members may append again to its list. -/
noncomputable def CJ : Nat → Cfg
  | 0 => C
  | n + 1 => { C with ext := fun f => if f = fn_tally_Ask_1 then some (splitE (CJ n) fn_tally_Ask_1 a_tally_Ask_1 0) else none }
theorem cj_le : ∀ n, CLe C (CJ n)
  | 0 => ⟨rfl, rfl, rfl, rfl, fun f e h => h, fun f h1 h2 => absurd h1 h2⟩
  | n + 1 => by
    refine ⟨by rw [CJ], by rw [CJ], by rw [CJ], by rw [CJ], fun f e h => (by cases h), fun f h1 h2 => ?_⟩
    by_cases e : f = fn_tally_Ask_1
    · subst e; rfl
    · exact absurd (by rw [CJ]; exact if_neg e) h2
theorem cj_ext (n : Nat) : (CJ (n + 1)).ext fn_tally_Ask_1 = some (splitE (CJ n) fn_tally_Ask_1 a_tally_Ask_1 0) := by
  rw [CJ]
  show (if fn_tally_Ask_1 = fn_tally_Ask_1 then some (splitE (CJ n) fn_tally_Ask_1 a_tally_Ask_1 0) else none) = _
  rw [if_pos rfl]
theorem cj_ext0 (n : Nat) {f : FuncId} (h : f ≠ fn_tally_Ask_1) : (CJ n).ext f = none := by
  cases n with
  | zero => rfl
  | succ n => rw [CJ]; exact if_neg h
theorem cj_prog (n : Nat) : (CJ n).prog = C.prog := (cj_le n).prog
theorem cj_keep (n : Nat) : (CJ n).keepAll = C.keepAll := (cj_le n).keep
theorem cj_fz (n : Nat) : (CJ n).fz = 1000000 := (cj_le n).fz
theorem CallR.cj {f : AV} {a : List AV} {m : Mem} {r : CRes} (n : Nat) (e : CallR C f a m r) : CallR (CJ n) f a m r := e.up (cj_le n)
/-- The lists of so many members, in order. -/
def cmb : Nat → List Int → List Int → List (List Int)
  | 0, _, now => [now]
  | _ + 1, [], _ => []
  | k + 1, x :: r, now => cmb k r (now ++ [x]) ++ cmb (k + 1) r now
/-- What is found among lists, and the last that was tried. -/
def chR (d : Div) : List (List Int) → RV → Bool × RV
  | [], y => (false, y)
  | c :: cs, y => if decB d c = true then (true, slI c) else chR d cs (slI c)
theorem chR_app (d : Div) : ∀ (a b : List (List Int)) (y : RV), chR d (a ++ b) y = if (chR d a y).1 = true then chR d a y else chR d b (chR d a y).2
  | [], b, y => by simp [chR]
  | c :: a, b, y => by
    by_cases h : decB d c = true
    · have hc : ∀ x, chR d (c :: x) y = (true, slI c) := fun x => if_pos h
      rw [List.cons_append, hc, hc, if_pos rfl]
    · have hc : ∀ x, chR d (c :: x) y = chR d x (slI c) := fun x => if_neg h
      rw [List.cons_append, hc, hc]; exact chR_app d a b _
theorem may_natJ {d : Div} : ∀ x ∈ doubtsL d, 0 ≤ x ∧ x < d.n := by
  intro x hx
  unfold doubtsL at hx
  obtain ⟨i, hi, rfl⟩ := List.mem_map.1 hx
  have := (List.mem_filter.1 hi).1
  simp at this
  omega
/-- A list of members, and what lies behind it. -/
def NowJ (H : List Blk) (v : AV) (l : List Int) : Prop := v = .r .nil ∧ l = [] ∨ ∃ B g junk, v = .osl B g 0 l.length 1 none ∧ H[B]? = some (.cells (rs (ints .i64 l) ++ rs junk) ty_int g) ∧ 0 < l.length
theorem app_alt {v y : AV} {l : List Int} (hy : Alt v y) {Hc : List Blk} (hv : NowJ Hc v l) (hl : l.length ≤ 1000) (x : Int) :
    ∃ B g H2 W2, appendA { h := Hc } ty_int 1 8 y (.r (.sl [.lit (.int .i64 x)] 1 (some 1))) = some (.osl B g 0 (l.length + 1) 1 none, { h := H2, wr := W2 }) ∧ H2[B]? = some (.cells (rs (ints .i64 (l ++ [x]))) ty_int g) ∧ (∀ q, q < Hc.length → q ≠ B → H2[q]? = Hc[q]?) ∧
      (B = Hc.length ∨ v = .osl B g 0 l.length 1 none) ∧ Hc.length ≤ H2.length ∧ ∀ z ∈ wrAll Hc.length { h := H2, wr := W2 }, z = B := by
  have hs : slCells { h := Hc } (.r (.sl [.lit (.int .i64 x)] 1 (some 1))) 1 = some (rs [.lit (.int .i64 x)], 1) := by simp [slCells]
  rcases hv with ⟨rfl, rfl⟩ | ⟨B, g, junk, rfl, hB, hpos⟩
  · have hy : y = .r .nil := hy
    subst hy
    refine ⟨Hc.length, 0, Hc ++ [.cells (rs [.lit (.int .i64 x)]) ty_int 0], [], ?_, by simp [ints], fun q hq _ => by rw [List.getElem?_append_left hq], .inl rfl, by simp, by simp [wrAll]⟩
    unfold appendA
    rw [hs]
    simp [roomOk]
  · obtain ⟨k, hk, rfl⟩ : ∃ k, l.length ≤ k ∧ y = .osl B g 0 l.length 1 (some k) := hy
    have hBl := getElem?_lt hB
    have hcs : List.take (l.length * 1) (rs (ints .i64 l) ++ rs junk) ++ rs [.lit (.int .i64 x)] = rs (ints .i64 (l ++ [x])) := by
      rw [List.take_left' (by rw [rs_len, ints_len]; omega)]
      simp [rs, ints]
    have hfit : l.length * 1 ≤ (rs (ints .i64 l) ++ rs junk).length := by rw [List.length_append, rs_len, ints_len]; omega
    have hroom : roomOk (l.length + 1) 8 := by simp [roomOk]; omega
    by_cases hin : l.length + 1 ≤ k
    · refine ⟨B, g, Hc.set B (.cells (rs (ints .i64 (l ++ [x]))) ty_int g), [B], ?_, by rw [List.getElem?_set_self hBl], fun q hq hne => by rw [List.getElem?_set_ne (Ne.symm hne)], .inr rfl, by simp, by simp [wrAll]⟩
      unfold appendA
      rw [hs]
      simp only [hB]
      rw [if_pos ⟨trivial, trivial, trivial, hfit, hroom⟩, if_neg (by decide), if_pos hin, hcs]
    · refine ⟨Hc.length, 0, Hc ++ [.cells (rs (ints .i64 (l ++ [x]))) ty_int 0], [], ?_, by simp, fun q hq _ => by rw [List.getElem?_append_left hq], .inl rfl, by simp, by simp [wrAll]⟩
      unfold appendA
      rw [hs]
      simp only [hB]
      rw [if_pos ⟨trivial, trivial, trivial, hfit, hroom⟩, if_neg (by decide), if_neg hin, hcs]
end Go.AM.T
/- What the functions compute (own work). -/
namespace Go.AM.T
open Go Go.AM
attribute [local simp] so_mov so_pick so_alloc so_box so_build so_slit so_load so_store so_nilc so_bin so_beq so_eqs so_eqn so_eqnl so_not so_conv so_s2b so_mkfn so_slcA so_padd so_fld so_idxA so_idxV so_idxT so_look so_mupd so_mkmap so_mksl so_ext so_app so_lenT so_lenM so_min so_max so_cpy so_clr so_mkif so_tass so_lenS so_idxS so_slc
attribute [local simp] dn_skip dn_label dn_ret dn_exit dn_scope dn_keep dn_reg dn_draw0 noSlots denE denEI stepE  sd_mov sd_pick sd_build sd_load sd_store sd_nilc sd_bin sd_beq sd_eqs sd_eqn sd_eqnl sd_not sd_conv sd_s2b sd_mkfn sd_slc sd_slcA sd_padd sd_fld sd_idxS sd_idxA sd_idxV sd_idxT sd_look sd_mupd sd_ext sd_app sd_lenS sd_lenT sd_lenM sd_min sd_max sd_mkif sd_tass sd_call sd_slit dn_seq dn_cond dn_block dn_loop kn_call denIs denI denOp wants ev eget putD binL enumFrom AV.bool? AV.int? ekeep evs evp runV fin runDefs resAll resOf tupOf unit AV.cells okV ok1 Value.oneCell' fill setN rcells rs_nil rs_cons load_own load_cons mkAgg_rs storeN jmpOut
attribute [local simp] dvL dv1t dvAt mkAgg2 dv0 dv1 dv2 dv3 dv4 dv5 dv6 dv7 dv8 dv9 dv10 dvA dvN dvAll C_fz fzr
section
variable {d : Div} {F T D Ch : Nat}
/-- What a heap holds while members are tried. -/
structure InvJ (d : Div) (F : Nat) (H : List Blk) (v : AV) (l : List Int) (Hc : List Blk) (z : RV) : Prop where
  len : H.length ≤ Hc.length
  same : ∀ q, q < H.length → q ≠ F → q ∉ avIdx v → Hc[q]? = H[q]?
  f : Hc[F]? = some (.cells [.r z] ty_Sint 0)
  now : NowJ Hc v l
def GenJ (d : Div) (F T D Ch L J : Nat) : Prop :=
  ∀ (l : List Int) (v : AV) (i : Nat) (x : RV) (H : List Blk) (W : List Nat), (∀ y ∈ l, 0 ≤ y ∧ y < 40) → l.length + L ≤ 100 → i ≤ (doubtsL d).length → H[F]? = some (.cells [.r x] ty_Sint 0) → H[T]? = some (.cells [.r (allV d)] ty_Stally_told 1) → H[D]? = some (.cells [.r (slI (doubtsL d))] ty_Sint 1) → H[Ch]? = some (.cells [chV F T D Ch] ty_func_Sint_int_int_bool 0) →
    (v = .r .nil ∧ l = [] ∨ ∃ B g, v = .osl B g 0 l.length 1 none ∧ H[B]? = some (.cells (rs (ints .i64 l)) ty_int g) ∧ 0 < l.length) → (∀ j ∈ avIdx v, j ≠ F ∧ j ≠ T ∧ j ≠ D ∧ j ≠ Ch) →
    CallR (CJ J) (chV F T D Ch) [v, i64 i, i64 L] { h := H, wr := W } (.ret (bo (chR d (cmb L ((doubtsL d).drop i) l) x).1) { h := H.set F (.cells [.r (chR d (cmb L ((doubtsL d).drop i) l) x).2] ty_Sint 0), wr := avIdx v ++ [F, T, D, Ch] ++ W })
theorem genJ_loop (hd40 : d.n ≤ 40) {L J : Nat} (hL : L ≤ 50) (ih : GenJ d F T D Ch L J) {l : List Int} {v y : AV} (hy : Alt v y) {H : List Blk} (hl : ∀ y ∈ l, 0 ≤ y ∧ y < 40) (hlL : l.length + (L + 1) ≤ 100) (hFl : F < H.length) (hT : H[T]? = some (.cells [.r (allV d)] ty_Stally_told 1)) (hD : H[D]? = some (.cells [.r (slI (doubtsL d))] ty_Sint 1)) (hC : H[Ch]? = some (.cells [chV F T D Ch] ty_func_Sint_int_int_bool 0))
    (hFT : F ≠ T) (hFD : F ≠ D) (hFC : F ≠ Ch) (hv : ∀ j ∈ avIdx v, j ≠ F ∧ j ≠ T ∧ j ≠ D ∧ j ≠ Ch) :
    ∀ (k i : Nat) (s : St) (z : RV), i + k = (doubtsL d).length → ekeep [0, 2, 5, 6, 11] s.env = [(0, y), (2, i64 (L + 1 : Nat)), (5, .own D 1 0), (6, .own Ch 0 0), (11, i64 i)] → InvJ d F H v l s.m.h z → (∀ q ∈ s.m.wr, q < H.length → q ∈ avIdx v ++ [F, T, D, Ch]) → s.defs = [] →
      ∃ s' o, Loop (CJ J) [0, 2, 5, 6, 11] l_tally_Ask_1_0 s o s' ∧ InvJ d F H v l s'.m.h (chR d (cmb (L + 1) ((doubtsL d).drop i) l) z).2 ∧ (∀ q ∈ s'.m.wr, q < H.length → q ∈ avIdx v ++ [F, T, D, Ch]) ∧ s'.defs = [] ∧
        ((o = .ret ∧ eget s'.env 10 = bo true ∧ (chR d (cmb (L + 1) ((doubtsL d).drop i) l) z).1 = true) ∨ (o = .exit 0 ∧ (chR d (cmb (L + 1) ((doubtsL d).drop i) l) z).1 = false)) := by
  have hS : SlI (doubtsL d) (slI (doubtsL d)) := Sl.slI _
  have hlen : (doubtsL d).length ≤ 40 := by have := doubtsL_len d; omega
  intro k
  induction k with
  | zero =>
    intro i s z hi he hI hw hd
    obtain ⟨M, hMM⟩ : ∃ M, M = s.m := ⟨_, rfl⟩
    obtain ⟨Hc, W⟩ := M
    rw [← hMM] at hI hw
    simp only at hI hw
    have hD' : Hc[D]? = some (.cells [.r (slI (doubtsL d))] ty_Sint 1) := by
      rw [hI.same D (getElem?_lt hD) (Ne.symm hFD) (fun h => (hv D h).2.2.1 rfl)]; exact hD
    have e1 : ((i : Int) < ((doubtsL d).length : Int)) = False := eq_false (by omega)
    have : (doubtsL d).drop i = [] := List.drop_eq_nil_of_le (by omega)
    rw [this]
    exact ⟨_, .exit 0, .stop (.of fun K => by rw [he]; simp [l_tally_Ask_1_0, ← hMM, hD', hS.len, e1]; rfl) (by simp), by simpa [cmb, chR] using hI, by simpa using hw, by simp [hd], .inr ⟨rfl, rfl⟩⟩
  | succ k ihk =>
    intro i s z hi he hI hw hd
    obtain ⟨M, hMM⟩ : ∃ M, M = s.m := ⟨_, rfl⟩
    obtain ⟨Hc, W⟩ := M
    rw [← hMM] at hI hw
    simp only at hI hw
    have up : ∀ j b, j ≠ F → (∀ h : j ∈ avIdx v, False) → H[j]? = some b → Hc[j]? = some b := fun j b hj h hb => by rw [hI.same j (getElem?_lt hb) hj (fun q => h q)]; exact hb
    have hD' := up D _ (Ne.symm hFD) (fun h => (hv D h).2.2.1 rfl) hD
    have hC' := up Ch _ (Ne.symm hFC) (fun h => (hv Ch h).2.2.2 rfl) hC
    have hT' := up T _ (Ne.symm hFT) (fun h => (hv T h).2.1 rfl) hT
    have hil : i < (doubtsL d).length := by omega
    have e1 : ((i : Int) < ((doubtsL d).length : Int)) = True := eq_true (by omega)
    have w1 : IntKind.wrap .i64 ((i : Int) + 1) = i + 1 := by rw [w64] <;> omega
    have wl1 : IntKind.wrap .i64 ((L : Int) + 1 - 1) = L := by rw [w64] <;> omega
    have wl2 : IntKind.wrap .i64 (L : Int) = L := by rw [w64] <;> omega
    obtain ⟨x, hx⟩ : ∃ x, x = (doubtsL d)[i] := ⟨_, rfl⟩
    have hxr : 0 ≤ x ∧ x < 40 := by have := may_natJ (d := d) x (by rw [hx]; exact List.getElem_mem hil); omega
    have hat := hS.at (sz := 1) hil
    have hld : ∀ m, loadV m (.r (.ptr ((ints .i64 (doubtsL d)).drop i))) 1 false = some (i64 x) := fun m => by rw [load_ints hil, hx]
    have hdrop : (doubtsL d).drop i = x :: (doubtsL d).drop (i + 1) := by rw [hx]; exact List.drop_eq_getElem_cons hil
    obtain ⟨B, g, H2, WA, hA, hB, hsame, hBo, hl2, hwA⟩ := app_alt hy hI.now (by omega) x
    have hBw : B = Hc.length ∨ B ∈ avIdx v := by
      rcases hBo with h | h
      · exact .inl h
      · exact .inr (by rw [h]; simp [avIdx])
    have hCl := getElem?_lt hC'
    have hBne : B ≠ F ∧ B ≠ T ∧ B ≠ D ∧ B ≠ Ch := by
      rcases hBw with h | h
      · have h1 := getElem?_lt hC'
        have h2 := getElem?_lt hD'
        have h3 := getElem?_lt hT'
        have h4 := getElem?_lt hI.f
        omega
      · exact hv B h
    have up2 : ∀ j b, j ≠ B → Hc[j]? = some b → H2[j]? = some b := fun j b hj hb => by rw [hsame j (getElem?_lt hb) hj]; exact hb
    obtain ⟨c1, k1⟩ := ih (l ++ [x]) (.osl B g 0 (l.length + 1) 1 none) (i + 1) z H2 [] (by
      intro y hy
      rcases List.mem_append.1 hy with h | h
      · exact hl y h
      · simp at h; rw [h]; exact hxr) (by simp; omega) (by omega) (up2 _ _ (Ne.symm hBne.1) hI.f) (up2 _ _ (Ne.symm hBne.2.1) hT') (up2 _ _ (Ne.symm hBne.2.2.1) hD') (up2 _ _ (Ne.symm hBne.2.2.2) hC')
      (.inr ⟨B, g, by simp, hB, by simp⟩) (fun j hj => by simp [avIdx] at hj; rw [hj]; exact hBne)
    have hap : apartL (wrAll Hc.length { h := H2, wr := WA }) [Ch] = true := by
      unfold apartL
      rw [List.all_eq_true]
      intro q hq
      rw [hwA q hq]
      have : (B == Ch) = false := by rw [beq_eq_false_iff_ne]; exact hBne.2.2.2
      simp only [List.contains_cons, List.contains_nil, this]; rfl
    obtain ⟨R, hR⟩ : ∃ R, R = chR d (cmb L ((doubtsL d).drop (i + 1)) (l ++ [x])) z := ⟨_, rfl⟩
    rw [← hR] at k1
    obtain ⟨H3, hH3⟩ : ∃ H3, H3 = H2.set F (.cells [.r R.2] ty_Sint 0) := ⟨_, rfl⟩
    rw [← hH3] at k1
    have hFl2 : F < H2.length := by have := hI.len; omega
    have hnow3 : NowJ H3 v l := by
      rcases hI.now with h | ⟨B0, g0, junk, e1, e2, e3⟩
      · exact .inl h
      · have hB0F : B0 ≠ F := (hv B0 (by rw [e1]; simp [avIdx])).1
        by_cases hBB : B = B0
        · subst hBB
          have hgg : g = g0 := by
            rcases hBo with h | h
            · have := getElem?_lt e2; omega
            · rw [e1] at h; injection h with _ q; exact q.symm
          subst hgg
          exact .inr ⟨B, g, [.lit (.int .i64 x)], e1, by rw [hH3, List.getElem?_set_ne (Ne.symm hB0F), hB]; simp [rs, ints], e3⟩
        · exact .inr ⟨B0, g0, junk, e1, by rw [hH3, List.getElem?_set_ne (Ne.symm hB0F)]; exact up2 _ _ (fun h => hBB h.symm) e2, e3⟩
    have hI3 : InvJ d F H v l H3 R.2 := by
      refine ⟨by rw [hH3, List.length_set]; have := hI.len; omega, fun q hq hqF hqv => ?_, by rw [hH3, List.getElem?_set_self hFl2], hnow3⟩
      rw [hH3, List.getElem?_set_ne (Ne.symm hqF), hsame q (by have := hI.len; omega) (fun h => by
        rcases hBw with h1 | h1
        · have := hI.len; omega
        · exact hqv (h ▸ h1)), hI.same q hq hqF hqv]
    have hcm : cmb (L + 1) ((doubtsL d).drop i) l = cmb L ((doubtsL d).drop (i + 1)) (l ++ [x]) ++ cmb (L + 1) ((doubtsL d).drop (i + 1)) l := by rw [hdrop]; rfl
    rw [hcm, chR_app, ← hR]
    obtain ⟨DV, hDV⟩ : ∃ DV, DV = slI (doubtsL d) := ⟨_, rfl⟩
    obtain ⟨DI, hDI⟩ : ∃ DI, DI = ints .i64 (doubtsL d) := ⟨_, rfl⟩
    have hln := hS.len
    rw [← hDV] at hD' hat hln
    rw [← hDI] at hat hld
    obtain ⟨cv, hcv⟩ : ∃ cv, cv = chV F T D Ch := ⟨_, rfl⟩
    rw [← hcv] at hC' k1
    obtain ⟨W2, hW2⟩ : ∃ W2, W2 = avIdx (.osl B g 0 (l.length + 1) 1 none) ++ [F, T, D, Ch] ++ [] := ⟨_, rfl⟩
    rw [← hW2] at k1
    have hk1 : ∀ n, c1 ≤ n → callN (CJ J) n cv [.osl B g 0 (l.length + 1) 1 none, .r (.lit (.int .i64 ((i : Int) + 1))), i64 L] { h := H2 } = some (.ret (bo R.1) { h := H3, wr := W2 }) := k1
    have hW : ∀ q ∈ W2 ++ (WA ++ W), q < H.length → q ∈ avIdx v ++ [F, T, D, Ch] := fun q hq hql => by
      have hBv : ∀ q, q = B → q < H.length → q ∈ avIdx v := fun q h1 h2 => by
        rcases hBw with h | h
        · have := hI.len; omega
        · rw [h1]; exact h
      rcases List.mem_append.1 hq with h | h
      · rw [hW2] at h
        simp only [avIdx, List.append_nil, List.cons_append, List.nil_append, List.mem_cons, List.not_mem_nil, or_false] at h
        rcases h with h | h | h | h | h
        · exact List.mem_append_left _ (hBv q h hql)
        · simp [h]
        · simp [h]
        · simp [h]
        · simp [h]
      · rcases List.mem_append.1 h with h | h
        · exact List.mem_append_left _ (hBv q (hwA q (by unfold wrAll; exact List.mem_append_left _ h)) hql)
        · exact hw q h hql
    cases hb : R.1 with
    | true =>
      rw [hb] at hk1
      rw [if_pos rfl]
      refine ⟨_, .ret, .stop (.ofN ⟨c1, fun n hn => by
        rw [he]
        simp [l_tally_Ask_1_0, dn_drawF, denF, denFI, stepF, slotFree, slotOf, foot, avIdx, pairsOk, apartL_nil, wrAll_self, hap, ← hMM, hD', hln, e1, hC', hat, hld, allR, AV.toR, repl, hA, w1, wl1, wl2, hk1 n hn]
        rfl⟩) (by simp), ?_, ?_, by simp [hd], .inl ⟨rfl, by simp, hb⟩⟩
      · simpa using hI3
      · simpa using hW
    | false =>
      rw [hb] at hk1
      rw [if_neg (by simp)]
      obtain ⟨s', o, h1, h2, h3, h4, h5⟩ := ihk (i + 1) { s with env := [(0, y), (2, i64 (L + 1 : Nat)), (5, .own D 1 0), (6, .own Ch 0 0), (11, i64 (i + 1 : Nat))], m := { h := H3, wr := W2 ++ (WA ++ W) } } R.2 (by omega) (by simp) hI3 hW hd
      refine ⟨s', o, .more (.ofN ⟨c1, fun n hn => ?_⟩) h1, h2, h3, h4, h5⟩
      rw [he]
      simp [l_tally_Ask_1_0, dn_drawF, denF, denFI, stepF, slotFree, slotOf, foot, avIdx, pairsOk, apartL_nil, wrAll_self, hap, ← hMM, hD', hln, e1, hC', hat, hld, allR, AV.toR, repl, hA, w1, wl1, wl2, hk1 n hn]
end
end Go.AM.T
/- What the functions compute (own work). -/
namespace Go.AM.T
open Go Go.AM
attribute [local simp] so_mov so_pick so_alloc so_box so_build so_slit so_load so_store so_nilc so_bin so_beq so_eqs so_eqn so_eqnl so_not so_conv so_s2b so_mkfn so_slcA so_padd so_fld so_idxA so_idxV so_idxT so_look so_mupd so_mkmap so_mksl so_ext so_app so_lenT so_lenM so_min so_max so_cpy so_clr so_mkif so_tass so_lenS so_idxS so_slc
attribute [local simp] dn_skip dn_label dn_ret dn_exit dn_scope dn_keep dn_reg dn_draw0 noSlots denE denEI stepE  sd_mov sd_pick sd_build sd_load sd_store sd_nilc sd_bin sd_beq sd_eqs sd_eqn sd_eqnl sd_not sd_conv sd_s2b sd_mkfn sd_slc sd_slcA sd_padd sd_fld sd_idxS sd_idxA sd_idxV sd_idxT sd_look sd_mupd sd_ext sd_app sd_lenS sd_lenT sd_lenM sd_min sd_max sd_mkif sd_tass sd_call sd_slit dn_seq dn_cond dn_block dn_loop kn_call denIs denI denOp wants ev eget putD binL enumFrom AV.bool? AV.int? ekeep evs evp runV fin runDefs resAll resOf tupOf unit AV.cells okV ok1 Value.oneCell' fill setN rcells rs_nil rs_cons load_own load_cons mkAgg_rs storeN jmpOut
attribute [local simp] dvL dv1t dvAt mkAgg2 dv0 dv1 dv2 dv3 dv4 dv5 dv6 dv7 dv8 dv9 dv10 dvA dvN dvAll C_fz fzr
section
variable {d : Div} {F T D Ch : Nat}
theorem lt0s_rs (n : Nat) : ∀ l : List RV, lt0s n (rs l) = true
  | [] => rfl
  | x :: l => by
    show (lt0 n (.r x) && lt0s n (rs l)) = true
    rw [lt0s_rs n l]; rfl
theorem lt0s_app (n : Nat) : ∀ (a b : List AV), lt0s n a = true → lt0s n b = true → lt0s n (a ++ b) = true
  | [], b, _, h => h
  | x :: a, b, h1, h2 => by
    simp only [lt0s, Bool.and_eq_true] at h1
    simp only [List.cons_append, lt0s, Bool.and_eq_true]
    exact ⟨h1.1, lt0s_app n a b h1.2 h2⟩
theorem invJ_back {H Hc : List Blk} {v : AV} {l : List Int} {z : RV} (hI : InvJ d F H v l Hc z) (hFl : F < H.length) (h0 : v = .r .nil ∧ l = [] ∨ ∃ B g, v = .osl B g 0 l.length 1 none ∧ H[B]? = some (.cells (rs (ints .i64 l)) ty_int g) ∧ 0 < l.length) (hv : ∀ j ∈ avIdx v, j ≠ F) :
    Back v (Hc.take H.length) (H.set F (.cells [.r z] ty_Sint 0)) := by
  have hlen := hI.len
  rcases h0 with ⟨rfl, rfl⟩ | ⟨B, g, rfl, hB, hpos⟩
  · show H.set F _ = Hc.take H.length
    apply List.ext_getElem?
    intro q
    by_cases hq : q < H.length
    · rw [List.getElem?_take_of_lt hq]
      by_cases e : q = F
      · subst e; rw [List.getElem?_set_self hFl, hI.f]
      · rw [List.getElem?_set_ne (Ne.symm e), hI.same q hq e (by simp [avIdx])]
    · rw [List.getElem?_eq_none (by simp; omega), List.getElem?_eq_none (by simp; omega)]
  · have hBl := getElem?_lt hB
    have hBF : B ≠ F := hv B (by simp [avIdx])
    rcases hI.now with ⟨h, _⟩ | ⟨B', g', junk, h1, h2, _⟩
    · cases h
    · cases h1
      show ∃ cs t, (Hc.take H.length)[B]? = some (.cells cs t g) ∧ H.set F _ = (Hc.take H.length).set B (.cells (cs.take (l.length * 1)) t g)
      refine ⟨_, _, by rw [List.getElem?_take_of_lt hBl]; exact h2, ?_⟩
      rw [List.take_left' (by rw [rs_len, ints_len]; omega)]
      apply List.ext_getElem?
      intro q
      by_cases hq : q < H.length
      · by_cases eB : q = B
        · subst eB
          rw [List.getElem?_set_ne (Ne.symm hBF), hB, List.getElem?_set_self (by rw [List.length_take]; omega)]
        · rw [List.getElem?_set_ne (Ne.symm eB), List.getElem?_take_of_lt hq]
          by_cases e : q = F
          · subst e; rw [List.getElem?_set_self hFl, hI.f]
          · rw [List.getElem?_set_ne (Ne.symm e), hI.same q hq e (by simp [avIdx]; exact eB)]
      · rw [List.getElem?_eq_none (by simp; omega), List.getElem?_eq_none (by simp; omega)]
theorem ask_body {J : Nat} {args : List AV} {H Hc : List Blk} {b : Bool} {W1 : List Nat} (hl : args.length = 7) (hk : ∃ n0, ∀ n, n0 ≤ n → runK (Kn (CJ J) n) a_tally_Ask_1 args H = some (bo b, { h := Hc, wr := W1 })) (hw : ∀ j ∈ W1, j < H.length → ∀ q, Hc[j]? = some q → blkLt H.length q = true) :
    ∃ n b', bodyN (CJ J) n fn_tally_Ask_1 a_tally_Ask_1 args H = some (.ret (bo b) { h := Hc.take H.length, wr := oldWr H.length W1 ++ [] }, b') :=
  bodyN_of hl hk (by rw [cj_fz, cj_keep]; exact settle_w (v' := bo b) rfl hw)
theorem choose_gen (hd40 : d.n ≤ 40) (e : openI d = 0) (hFT : F ≠ T) (hFD : F ≠ D) (hFC : F ≠ Ch) : ∀ L J : Nat, L < J → L ≤ 50 → GenJ d F T D Ch L J := by
  intro L
  induction L with
  | zero =>
    intro J hJ _ l v i x H W hl hlL hi hF hT hD hC h0 hv
    obtain ⟨J, rfl⟩ : ∃ k, J = k + 1 := ⟨J - 1, by omega⟩
    have hFl := getElem?_lt hF
    have hfm : ([] ++ [v, i64 i, i64 0] ++ [.own F 0 0, .own T 1 0, .own D 1 0, .own Ch 0 0] : List AV).flatMap avIdx = avIdx v ++ [F, T, D, Ch] := by simp [avIdx]
    have hch : chR d (cmb 0 ((doubtsL d).drop i) l) x = (decB d l, slI l) := by
      simp only [cmb, chR]
      cases decB d l <;> rfl
    rw [hch]
    have hspl : SplitR (CJ J) fn_tally_Ask_1 a_tally_Ask_1 0 ([] ++ [v, i64 i, i64 0] ++ [.own F 0 0, .own T 1 0, .own D 1 0, .own Ch 0 0]) H (bo (decB d l)) (H.set F (.cells [.r (slI l)] ty_Sint 0)) := by
      refine ⟨by simp, fun x0 hx0 y hy => ?_⟩
      have hx0 : x0 = v := by simpa using hx0.symm
      subst hx0
      have hnow : Now H y l := by
        rcases h0 with ⟨rfl, rfl⟩ | ⟨B, g, rfl, hB, hpos⟩
        · exact .inl ⟨hy, rfl⟩
        · obtain ⟨k, hk, rfl⟩ : ∃ k, l.length ≤ k ∧ y = .osl B g 0 l.length 1 (some k) := hy
          exact .inr ⟨B, g, ty_int, some k, rfl, hB, hpos⟩
      have hyF : ∀ j ∈ avIdx y, j ≠ F := by
        rcases h0 with ⟨rfl, rfl⟩ | ⟨B, g, rfl, hB, hpos⟩
        · have : y = .r .nil := hy
          subst this
          simp [avIdx]
        · obtain ⟨k, hk, rfl⟩ : ∃ k, l.length ≤ k ∧ y = .osl B g 0 l.length 1 (some k) := hy
          intro j hj
          simp [avIdx] at hj
          subst hj
          exact (hv j (by simp [avIdx])).1
      obtain ⟨c1, k1⟩ := CallR.cj J (CloneI_spec (m := { h := H }) (by omega) hnow)
      obtain ⟨H2, hH2⟩ : ∃ H2, H2 = H.set F (.cells [.r (slI l)] ty_Sint 0) := ⟨_, rfl⟩
      have hnv2 : Now H2 y l := by
        rcases hnow with h | ⟨B, g, T', cap, h1, hB, h2⟩
        · exact .inl h
        · refine .inr ⟨B, g, T', cap, h1, ?_, h2⟩
          rw [hH2, List.getElem?_set_ne]
          · exact hB
          · intro e; exact hyF B (by rw [h1]; simp [avIdx]) e.symm
      have hT2 : H2[T]? = some (.cells [.r (allV d)] ty_Stally_told 1) := by rw [hH2, List.getElem?_set_ne hFT]; exact hT
      obtain ⟨c2, k2⟩ := CallR.cj J (decide_spec (v := y) (d := d) hl (by omega) hd40 e { h := H2, wr := [F] } (fun H' hH' => by
        refine (Now.keep hnv2 fun j T' g hj => ?_).arr
        have hH' : H'.take H2.length = H2 := hH'
        rw [take_get hH' (getElem?_lt hj) |>.trans hj]))
      have hrun : ∃ n0, ∀ n, n0 ≤ n → runK (Kn (CJ J) n) a_tally_Ask_1 [y, i64 i, i64 0, .own F 0 0, .own T 1 0, .own D 1 0, .own Ch 0 0] H = some (bo (decB d l), { h := H2, wr := [F] }) := by
        refine ⟨c1 + c2, fun k hk => ?_⟩
        obtain ⟨S, hS⟩ : ∃ S, S = slI l := ⟨_, rfl⟩
        have hok : okV (.r S) = true ∧ AV.cells (.r S) = [.r S] := by
          rw [hS]; unfold slI gsV; split <;> exact ⟨rfl, rfl⟩
        obtain ⟨V, hV⟩ : ∃ V, V = allV d := ⟨_, rfl⟩
        rw [← hS] at k1 hH2
        rw [← hV] at hT2 k2
        have h1 := hok.1
        have h2 := hok.2
        simp only [okV, ok1] at h1
        simp only [AV.cells] at h2
        simp [runK, finK, a_tally_Ask_1, -okV, -ok1, -AV.cells, k1 k (by omega), hok, hF, ← hH2, hT2, k2 k (by omega)]
      obtain ⟨n, b', hb⟩ := ask_body (J := J) (by simp) hrun (by
        intro j hj hjl q hq
        simp at hj
        subst hj
        rw [hH2, List.getElem?_set_self hFl] at hq
        cases hq; rfl)
      have htk : H2.take H.length = H2 := List.take_of_length_le (by rw [hH2]; simp)
      rw [htk] at hb
      refine ⟨n, b', _, hb, ?_, fun z hz => ?_⟩
      · have hback := invJ_back (d := d) (F := F) (H := H) (Hc := H2) (v := x0) (l := l) (z := slI l) ⟨by rw [hH2]; simp, fun q hq hqF _ => by rw [hH2, List.getElem?_set_ne (Ne.symm hqF)], by rw [hH2, List.getElem?_set_self hFl], by
          rcases h0 with h | ⟨B, g, h1, hB, hpos⟩
          · exact .inl h
          · exact .inr ⟨B, g, [], h1, by rw [hH2, List.getElem?_set_ne (Ne.symm (hv B (by rw [h1]; simp [avIdx])).1), hB]; simp [rs], hpos⟩⟩ hFl h0 (fun j hj => (hv j hj).1)
        rw [htk] at hback
        exact hback
      · rw [hfm]
        simp only [List.append_nil] at hz
        unfold oldWr at hz
        have := (List.mem_filter.1 hz).1
        simp at this
        simp [this]
    have := CallR.split (C' := CJ (J + 1)) (a := []) (b := [.own F 0 0, .own T 1 0, .own D 1 0, .own Ch 0 0]) (args := [v, i64 i, i64 0]) (m := { h := H, wr := W }) (cj_ext J) hspl
    rw [hfm] at this
    exact this
  | succ L ih =>
    intro J hJ hL50 l v i x H W hl hlL hi hF hT hD hC h0 hv
    obtain ⟨J, rfl⟩ : ∃ k, J = k + 1 := ⟨J - 1, by omega⟩
    have hFl := getElem?_lt hF
    have hTl := getElem?_lt hT
    have hDl := getElem?_lt hD
    have hCl := getElem?_lt hC
    have hfm : ([] ++ [v, i64 i, i64 (L + 1 : Nat)] ++ [.own F 0 0, .own T 1 0, .own D 1 0, .own Ch 0 0] : List AV).flatMap avIdx = avIdx v ++ [F, T, D, Ch] := by simp [avIdx]
    have hL0 : ((L : Int) + 1 = 0) = False := eq_false (by omega)
    obtain ⟨R, hR⟩ : ∃ R, R = chR d (cmb (L + 1) ((doubtsL d).drop i) l) x := ⟨_, rfl⟩
    have hspl : SplitR (CJ J) fn_tally_Ask_1 a_tally_Ask_1 0 ([] ++ [v, i64 i, i64 (L + 1 : Nat)] ++ [.own F 0 0, .own T 1 0, .own D 1 0, .own Ch 0 0]) H (bo R.1) (H.set F (.cells [.r R.2] ty_Sint 0)) := by
      refine ⟨by simp, fun x0 hx0 y hy => ?_⟩
      have hx0 : x0 = v := by simpa using hx0.symm
      subst hx0
      obtain ⟨s, o, l1, hI, hw, h4, h5⟩ := genJ_loop hd40 (by omega) (ih J (by omega) (by omega)) hy hl hlL hFl hT hD hC hFT hFD hFC hv ((doubtsL d).length - i) i { env := [(0, y), (2, i64 (L + 1 : Nat)), (5, .own D 1 0), (6, .own Ch 0 0), (11, i64 i)], m := { h := H } } x (by omega) (by simp)
        ⟨Nat.le_refl _, fun q _ _ _ => rfl, hF, by
          rcases h0 with h | ⟨B, g, h1, hB, hpos⟩
          · exact .inl h
          · exact .inr ⟨B, g, [], h1, by rw [hB]; simp [rs], hpos⟩⟩ (by simp) rfl
      rw [← hR] at hI h5
      obtain ⟨c1, k1⟩ := l1.get
      obtain ⟨Hc, W1, hsm⟩ : ∃ Hc W1, s.m = { h := Hc, wr := W1 } := ⟨_, _, rfl⟩
      rw [hsm] at hI hw
      simp only at hI hw
      have hrun : ∃ n0, ∀ n, n0 ≤ n → runK (Kn (CJ J) n) a_tally_Ask_1 [y, i64 i, i64 (L + 1 : Nat), .own F 0 0, .own T 1 0, .own D 1 0, .own Ch 0 0] H = some (bo R.1, { h := Hc, wr := W1 }) := by
        rcases h5 with ⟨rfl, h5, h6⟩ | ⟨rfl, h6⟩
        · refine ⟨c1, fun k hk => ?_⟩
          have k1 := k1 k hk
          rw [h6]
          simp at k1
          simp [runK, finK, a_tally_Ask_1, hL0, k1, h5, h4, hsm]
        · refine ⟨c1, fun k hk => ?_⟩
          have k1 := k1 k hk
          rw [h6]
          simp at k1
          simp [runK, finK, a_tally_Ask_1, hL0, k1, h4, hsm]
      obtain ⟨n, b', hb⟩ := ask_body (J := J) (by simp) hrun (by
        intro j hj hjl q hq
        have hm := hw j hj hjl
        have stay : ∀ b, j ≠ F → j ∉ avIdx x0 → H[j]? = some b → q = b := fun b h1 h2 h3 => by
          rw [hI.same j hjl h1 h2, h3] at hq; exact (Option.some.inj hq).symm
        rcases List.mem_append.1 hm with hm | hm
        · rcases hI.now with ⟨h, _⟩ | ⟨B, g, junk, h1, h2, _⟩
          · rw [h] at hm; simp [avIdx] at hm
          · rw [h1] at hm
            simp [avIdx] at hm
            subst hm
            rw [h2] at hq
            cases hq
            exact lt0s_app _ _ _ (lt0s_rs _ _) (lt0s_rs _ _)
        · simp only [List.mem_cons, List.not_mem_nil, or_false] at hm
          rcases hm with hm | hm | hm | hm
          · subst hm
            rw [hI.f] at hq
            cases hq; rfl
          · subst hm
            rw [stay _ (Ne.symm hFT) (fun h => (hv j h).2.1 rfl) hT]; rfl
          · subst hm
            rw [stay _ (Ne.symm hFD) (fun h => (hv j h).2.2.1 rfl) hD]; rfl
          · subst hm
            rw [stay _ (Ne.symm hFC) (fun h => (hv j h).2.2.2 rfl) hC]
            simp [blkLt, lt0s, lt0, chV]
            omega)
      refine ⟨n, b', _, hb, invJ_back hI hFl h0 (fun j hj => (hv j hj).1), fun z hz => ?_⟩
      rw [hfm]
      simp only [List.append_nil] at hz
      unfold oldWr at hz
      obtain ⟨z1, z2⟩ := List.mem_filter.1 hz
      exact hw z z1 (by simpa using z2)
    rw [← hR]
    have := CallR.split (C' := CJ (J + 1)) (a := []) (b := [.own F 0 0, .own T 1 0, .own D 1 0, .own Ch 0 0]) (args := [v, i64 i, i64 (L + 1 : Nat)]) (m := { h := H, wr := W }) (cj_ext J) hspl
    rw [hfm] at this
    exact this
end
end Go.AM.T
/- What the functions compute (own work). -/
namespace Go.AM.T
open Go Go.AM
attribute [local simp] so_mov so_pick so_alloc so_box so_build so_slit so_load so_store so_nilc so_bin so_beq so_eqs so_eqn so_eqnl so_not so_conv so_s2b so_mkfn so_slcA so_padd so_fld so_idxA so_idxV so_idxT so_look so_mupd so_mkmap so_mksl so_ext so_app so_lenT so_lenM so_min so_max so_cpy so_clr so_mkif so_tass so_lenS so_idxS so_slc
attribute [local simp] dn_skip dn_label dn_ret dn_exit dn_scope dn_keep dn_reg dn_draw0 noSlots denE denEI stepE  sd_mov sd_pick sd_build sd_load sd_store sd_nilc sd_bin sd_beq sd_eqs sd_eqn sd_eqnl sd_not sd_conv sd_s2b sd_mkfn sd_slc sd_slcA sd_padd sd_fld sd_idxS sd_idxA sd_idxV sd_idxT sd_look sd_mupd sd_ext sd_app sd_lenS sd_lenT sd_lenM sd_min sd_max sd_mkif sd_tass sd_call sd_slit dn_seq dn_cond dn_block dn_loop kn_call denIs denI denOp wants ev eget putD binL enumFrom AV.bool? AV.int? ekeep evs evp runV fin runDefs resAll resOf tupOf unit AV.cells okV ok1 Value.oneCell' fill setN rcells rs_nil rs_cons load_own load_cons mkAgg_rs storeN jmpOut
attribute [local simp] dvL dv1t dvAt mkAgg2 dv0 dv1 dv2 dv3 dv4 dv5 dv6 dv7 dv8 dv9 dv10 dvA dvN dvAll C_fz fzr
/-- The lists of members that are tried, in order. -/
def askC (d : Div) : List (List Int) := (List.range (doubtsL d).length).flatMap fun k => cmb k (doubtsL d) []
def askL (d : Div) : List Int := ((askC d).find? (decB d)).getD (doubtsL d)
def askR (d : Div) : RV := if openI d = 0 then slI (askL d) else .nil
theorem chR_find (d : Div) : ∀ (cs : List (List Int)) (z : RV), match cs.find? (decB d) with
    | some c => chR d cs z = (true, slI c)
    | none => (chR d cs z).1 = false
  | [], z => rfl
  | c :: cs, z => by
    rw [List.find?_cons]
    cases h : decB d c with
    | true => exact if_pos h
    | false =>
      have hc : chR d (c :: cs) z = chR d cs (slI c) := if_neg (by rw [h]; simp)
      simp only
      rw [hc]
      exact chR_find d cs _
section
variable {d : Div} {F T D Ch : Nat}
theorem ask_loop (hd40 : d.n ≤ 40) (e : openI d = 0) (hFT : F ≠ T) (hFD : F ≠ D) (hFC : F ≠ Ch) {J : Nat} (hJ : 10 ≤ J) (h8 : (doubtsL d).length ≤ 8) {H : List Blk} (hFl : F < H.length) (hT : H[T]? = some (.cells [.r (allV d)] ty_Stally_told 1)) (hD : H[D]? = some (.cells [.r (slI (doubtsL d))] ty_Sint 1)) (hC : H[Ch]? = some (.cells [chV F T D Ch] ty_func_Sint_int_int_bool 0)) {base : Nat} (hbase : base ≤ F ∧ base ≤ T ∧ base ≤ D ∧ base ≤ Ch) :
    ∀ (k i : Nat) (s : St) (z : RV), i + k = (doubtsL d).length → ekeep [6, 8, 9, 25, 26] s.env = [(6, .own D 1 0), (8, .own F 0 0), (9, .own Ch 0 0), (25, i64 (doubtsL d).length), (26, i64 i)] → s.m.h = H.set F (.cells [.r z] ty_Sint 0) → (∀ q ∈ s.m.wr, base ≤ q) → s.defs = [] →
      ∃ s' o z', Loop (CJ J) [6, 8, 9, 25, 26] l_tally_Ask_0 s o s' ∧ s'.m.h = H.set F (.cells [.r z'] ty_Sint 0) ∧ (∀ q ∈ s'.m.wr, base ≤ q) ∧ s'.defs = [] ∧
        ((o = .ret ∧ ∃ c, ((List.range' i k).flatMap fun k => cmb k (doubtsL d) []).find? (decB d) = some c ∧ eget s'.env 2 = .r (slI c) ∧ eget s'.env 3 = i64 0) ∨ (o = .exit 0 ∧ ((List.range' i k).flatMap fun k => cmb k (doubtsL d) []).find? (decB d) = none ∧ eget s'.env 6 = .own D 1 0)) := by
  intro k
  induction k with
  | zero =>
    intro i s z hi he hm hw hd
    have e1 : ((i : Int) < ((doubtsL d).length : Int)) = False := eq_false (by omega)
    exact ⟨_, .exit 0, z, .stop (.of fun K => by rw [he]; simp [l_tally_Ask_0, e1]; rfl) (by simp), by simpa using hm, by simpa using hw, by simp [hd], .inr ⟨rfl, by simp, by simp⟩⟩
  | succ k ihk =>
    intro i s z hi he hm hw hd
    obtain ⟨M, hMM⟩ : ∃ M, M = s.m := ⟨_, rfl⟩
    obtain ⟨Hc, W⟩ := M
    rw [← hMM] at hm hw
    simp only at hm hw
    have e1 : ((i : Int) < ((doubtsL d).length : Int)) = True := eq_true (by omega)
    have w1 : IntKind.wrap .i64 ((i : Int) + 1) = i + 1 := by rw [w64] <;> omega
    have hF' : Hc[F]? = some (.cells [.r z] ty_Sint 0) := by rw [hm, List.getElem?_set_self hFl]
    have hT' : Hc[T]? = some (.cells [.r (allV d)] ty_Stally_told 1) := by rw [hm, List.getElem?_set_ne hFT]; exact hT
    have hD' : Hc[D]? = some (.cells [.r (slI (doubtsL d))] ty_Sint 1) := by rw [hm, List.getElem?_set_ne hFD]; exact hD
    have hC' : Hc[Ch]? = some (.cells [chV F T D Ch] ty_func_Sint_int_int_bool 0) := by rw [hm, List.getElem?_set_ne hFC]; exact hC
    obtain ⟨c1, k1⟩ := choose_gen hd40 e hFT hFD hFC i J (by omega) (by omega) [] (.r .nil) 0 z Hc W (by simp) (by simp; omega) (by omega) hF' hT' hD' hC' (.inl ⟨rfl, rfl⟩) (by simp [avIdx])
    rw [List.drop_zero] at k1
    have hfd := chR_find d (cmb i (doubtsL d) []) z
    obtain ⟨R, hR⟩ : ∃ R, R = chR d (cmb i (doubtsL d) []) z := ⟨_, rfl⟩
    rw [← hR] at k1 hfd
    obtain ⟨H3, hH3⟩ : ∃ H3, H3 = Hc.set F (.cells [.r R.2] ty_Sint 0) := ⟨_, rfl⟩
    have hH3' : H3 = H.set F (.cells [.r R.2] ty_Sint 0) := by rw [hH3, hm, List.set_set]
    rw [← hH3] at k1
    have hF3 : H3[F]? = some (.cells [.r R.2] ty_Sint 0) := by rw [hH3', List.getElem?_set_self hFl]
    obtain ⟨W2, hW2⟩ : ∃ W2, W2 = avIdx (.r .nil) ++ [F, T, D, Ch] ++ W := ⟨_, rfl⟩
    rw [← hW2] at k1
    have hw2 : ∀ q ∈ W2, base ≤ q := fun q hq => by
      rw [hW2] at hq
      simp only [avIdx, List.nil_append, List.cons_append, List.mem_cons] at hq
      rcases hq with h | h | h | h | h
      · omega
      · omega
      · omega
      · omega
      · exact hw q h
    obtain ⟨cv, hcv⟩ : ∃ cv, cv = chV F T D Ch := ⟨_, rfl⟩
    rw [← hcv] at hC' k1
    have hk1 : ∀ n, c1 ≤ n → callN (CJ J) n cv [.r .nil, .r (.lit (.int .i64 0)), i64 i] { h := Hc, wr := W } = some (.ret (bo R.1) { h := H3, wr := W2 }) := k1
    have hrg : (List.range' i (k + 1)).flatMap (fun k => cmb k (doubtsL d) []) = cmb i (doubtsL d) [] ++ (List.range' (i + 1) k).flatMap fun k => cmb k (doubtsL d) [] := by rw [List.range'_succ]; rfl
    rw [hrg, List.find?_append]
    cases hc : (cmb i (doubtsL d) []).find? (decB d) with
    | some c =>
      rw [hc] at hfd
      simp only at hfd
      rw [hfd] at hk1 hF3 hH3'
      have hok : okV (.r (slI c)) = true ∧ AV.cells (.r (slI c)) = [.r (slI c)] := by
        unfold slI gsV; split <;> exact ⟨rfl, rfl⟩
      obtain ⟨S, hS⟩ : ∃ S, S = slI c := ⟨_, rfl⟩
      rw [← hS] at hF3 hH3'
      exact ⟨_, .ret, S, .stop (.ofN ⟨c1, fun n hn => by
        rw [he]
        simp [l_tally_Ask_0, ← hMM, e1, hC', hk1 n hn, hF3]
        rfl⟩) (by simp), by simpa using hH3', by simpa using hw2, by simp [hd], .inl ⟨rfl, c, rfl, by simp [hS], by simp⟩⟩
    | none =>
      rw [hc] at hfd
      simp only at hfd
      rw [hfd] at hk1
      obtain ⟨s', o, z', h1, h2, h3, h4, h5⟩ := ihk (i + 1) { s with env := [(6, .own D 1 0), (8, .own F 0 0), (9, .own Ch 0 0), (25, i64 (doubtsL d).length), (26, i64 (i + 1 : Nat))], m := { h := H3, wr := W2 } } R.2 (by omega) (by simp) hH3' hw2 hd
      refine ⟨s', o, z', .more (.ofN ⟨c1, fun n hn => ?_⟩) h1, h2, h3, h4, h5⟩
      rw [he]
      simp [l_tally_Ask_0, ← hMM, e1, hC', hk1 n hn, w1]
end
section
variable {d : Div} {a0 a1 n0 n1 p q : RV}
/-- The least question. -/
theorem Ask_spec (hs : DivS d a0 a1 n0 n1 p q) (hb : Small d) (hru : 0 ≤ d.rule ∧ d.rule ≤ 255) {J : Nat} (hJ : 10 ≤ J) (m : Mem) :
    CallR (CJ J) (fnv fn_tally_Ask) [.r (.agg (divC d a0 a1 n0 n1 p q))] m (.ret (.tup [.r (askR d), i64 (openI d)]) m) := by
  obtain ⟨R, hRR⟩ : ∃ R, R = (if openI d = 0 then lookC d (divC d a0 a1 n0 n1 p q) else z_tally_looked) := ⟨_, rfl⟩
  have lR : R.length = 91 := by rw [hRR]; split <;> rfl
  have hRt : List.take 91 (rs R) = rs R := List.take_of_length_le (by rw [rs_len]; omega)
  obtain ⟨Z, hZ⟩ : ∃ Z, Z = z_tally_looked := ⟨_, rfl⟩
  have hZl : Z.length = 91 := by rw [hZ]; rfl
  have hZd : List.drop 91 (rs Z) = [] := List.drop_eq_nil_of_le (by rw [rs_len]; omega)
  have hd11 : (divC d a0 a1 n0 n1 p q).length = 11 := rfl
  have hx := cj_ext0 J (f := fn_tally_Ask) (by decide)
  have hkp : (CJ J).keepAll fn_tally_Ask = false := by rw [cj_keep]; rfl
  have hpr : (CJ J).prog fn_tally_Ask = some a_tally_Ask := by rw [cj_prog]; exact prog_tally_Ask
  obtain ⟨c1, k1⟩ := CallR.cj J (topen_spec hs hb hru { h := m.h ++ [.cells (rs (divC d a0 a1 n0 n1 p q)) ty_tally_Division 0] })
  rw [← hRR] at k1
  by_cases e : openI d = 0
  case neg =>
    have hask : askR d = .nil := if_neg e
    rw [hask]
    obtain ⟨D, hD⟩ : ∃ D, D = divC d a0 a1 n0 n1 p q := ⟨_, rfl⟩
    obtain ⟨z, hz⟩ : ∃ z, z = openI d := ⟨_, rfl⟩
    rw [← hz] at e k1 ⊢
    have hz' : (z != 0) = true := by simpa using e
    rw [← hD] at k1 hd11 ⊢
    have hDt : List.take 11 (rs D) = rs D := List.take_of_length_le (by rw [rs_len]; omega)
    exact CallR.eval (m1 := { h := m.h ++ [.cells (rs D) ty_tally_Division 0, .cells (rs R) ty_tally_looked 0], wr := [m.h.length + 1] }) hx hkp hpr rfl ⟨c1, fun k hk => by
      simp [cj_fz, a_tally_Ask, ← hZ, hd11, hDt, rs_len, hZl, hZd, lR, hRt, k1 k hk, allR, AV.toR, e, hz', fz, fzs]⟩ (by simp) (by simp)
  rw [if_pos e] at hRR
  rw [e] at k1
  obtain ⟨hr, -, hd8⟩ := openI0 e
  have hn := right_n hr
  obtain ⟨c2, k2⟩ := CallR.cj J (doubts_spec (d := d) (a0 := a0) (a1 := a1) (n0 := n0) (n1 := n1) (p := p) (q := q) hn { h := m.h ++ [.cells (rs (divC d a0 a1 n0 n1 p q)) ty_tally_Division 0, .cells (rs R) ty_tally_looked 0, .dead, .dead] })
  obtain ⟨c3, k3⟩ := CallR.cj J (all_told_spec hs hru.1 e { h := m.h ++ [.cells (rs (divC d a0 a1 n0 n1 p q)) ty_tally_Division 0, .cells (rs R) ty_tally_looked 0, .dead, .dead] })
  rw [← hRR] at k2 k3
  obtain ⟨D, hD⟩ : ∃ D, D = divC d a0 a1 n0 n1 p q := ⟨_, rfl⟩
  rw [← hD] at k1 k2 k3 hd11 ⊢
  have hDt : List.take 11 (rs D) = rs D := List.take_of_length_le (by rw [rs_len]; omega)
  obtain ⟨H, hH⟩ : ∃ H, H = m.h ++ [.cells (rs D) ty_tally_Division 0, .cells (rs R) ty_tally_looked 0, .cells [.r (slI (doubtsL d))] ty_Sint 1, .cells [.r (allV d)] ty_Stally_told 1, .cells [.r .nil] ty_Sint 0, .cells [chV (m.h.length + 4) (m.h.length + 3) (m.h.length + 2) (m.h.length + 5)] ty_func_Sint_int_int_bool 0] := ⟨_, rfl⟩
  have hHl : H.length = m.h.length + 6 := by rw [hH]; simp
  have g2 : H[m.h.length + 2]? = some (.cells [.r (slI (doubtsL d))] ty_Sint 1) := by rw [hH, get_midk]; rfl
  have g3 : H[m.h.length + 3]? = some (.cells [.r (allV d)] ty_Stally_told 1) := by rw [hH, get_midk]; rfl
  have g4 : H[m.h.length + 4]? = some (.cells [.r .nil] ty_Sint 0) := by rw [hH, get_midk]; rfl
  have g5 : H[m.h.length + 5]? = some (.cells [chV (m.h.length + 4) (m.h.length + 3) (m.h.length + 2) (m.h.length + 5)] ty_func_Sint_int_int_bool 0) := by rw [hH, get_midk]; rfl
  obtain ⟨s', o, z', l1, h2, h3, h4, h5⟩ := ask_loop hn.2 e (F := m.h.length + 4) (T := m.h.length + 3) (D := m.h.length + 2) (Ch := m.h.length + 5) (by omega) (by omega) (by omega) hJ hd8 (by omega) g3 g2 g5 (base := m.h.length) (by omega) (doubtsL d).length 0 { env := [(6, .own (m.h.length + 2) 1 0), (8, .own (m.h.length + 4) 0 0), (9, .own (m.h.length + 5) 0 0), (25, i64 (doubtsL d).length), (26, i64 0)], m := { h := H, wr := [m.h.length + 5, m.h.length + 3, m.h.length + 2, m.h.length + 3, m.h.length + 2, m.h.length + 1] } } .nil (by omega) (by simp) (set_same g4).symm (by
    intro y hy
    simp at hy
    omega) rfl
  rw [← List.range_eq_range', show (List.range (doubtsL d).length).flatMap (fun k => cmb k (doubtsL d) []) = askC d from rfl] at h5
  obtain ⟨c4, k4⟩ := l1.get
  obtain ⟨Hc, W1, hsm⟩ : ∃ Hc W1, s'.m = { h := Hc, wr := W1 } := ⟨_, _, rfl⟩
  rw [hsm] at h2 h3
  simp only at h2 h3
  have f2 : Hc[m.h.length + 2]? = some (.cells [.r (slI (doubtsL d))] ty_Sint 1) := by rw [h2, List.getElem?_set_ne (by omega)]; exact g2
  have ht : Hc.take m.h.length = m.h := by rw [h2, List.take_set_of_le (by omega), hH]; simp
  have hask : askR d = slI (askL d) := if_pos e
  have hfz : ∀ l : List Int, ∀ M : Mem, fz M m.h.length 999999 (.r (slI l)) = some (.r (slI l)) := fun l M => rfl
  have hl := (Sl.slI (doubtsL d)).len
  obtain ⟨TC, tn, hV⟩ : ∃ TC tn, allV d = .sl TC tn none := ⟨_, _, rfl⟩
  rw [hask, e]
  rw [hV] at k3 g3 hH
  have l21 : m.h.length + 2 + 1 = m.h.length + 3 := rfl
  simp only [chV] at hH
  have hform : slI (doubtsL d) = .nil ∨ ∃ DI n, slI (doubtsL d) = .sl DI n none := by
    unfold slI gsV
    split
    · exact .inl rfl
    · exact .inr ⟨_, _, rfl⟩
  rcases h5 with ⟨rfl, c, h5, h6, h7⟩ | ⟨rfl, h5, h6⟩
  · have hal : askL d = c := by unfold askL; rw [h5]; rfl
    rw [hal]
    obtain ⟨S, hS⟩ : ∃ S, S = slI c := ⟨_, rfl⟩
    rw [← hS] at h6 ⊢
    refine CallR.eval (m1 := { h := Hc, wr := W1 }) hx hkp hpr rfl ⟨c1 + c2 + c3 + c4, fun k hk => ?_⟩ ht h3
    have k4 := k4 k (by omega)
    rcases hform with hDV | ⟨DI, n, hDV⟩
    · rw [hDV] at hl k2 g2 f2 hH
      simp [cj_fz, a_tally_Ask, l21, dn_drawF, sd_slot, denF, denFI, stepF, slotFree, slotOf, foot, avIdx, wrAll, pairsOk, apartL, ← hZ, hd11, hDt, rs_len, hZl, hZd, lR, hRt, k1 k (by omega), k2 k (by omega), k3 k (by omega), allR, AV.toR, ← hH, g2, hl, k4, h4, h6, h7, hsm, fz, fzs]
    · rw [hDV] at hl k2 g2 f2 hH
      simp [cj_fz, a_tally_Ask, l21, dn_drawF, sd_slot, denF, denFI, stepF, slotFree, slotOf, foot, avIdx, wrAll, pairsOk, apartL, ← hZ, hd11, hDt, rs_len, hZl, hZd, lR, hRt, k1 k (by omega), k2 k (by omega), k3 k (by omega), allR, AV.toR, ← hH, g2, hl, k4, h4, h6, h7, hsm, fz, fzs]
  · have hal : askL d = doubtsL d := by unfold askL; rw [h5]; rfl
    rw [hal]
    refine CallR.eval (m1 := { h := Hc, wr := W1 }) hx hkp hpr rfl ⟨c1 + c2 + c3 + c4, fun k hk => ?_⟩ ht h3
    have k4 := k4 k (by omega)
    rcases hform with hDV | ⟨DI, n, hDV⟩
    · rw [hDV] at hl k2 g2 f2 hH ⊢
      simp [cj_fz, a_tally_Ask, l21, dn_drawF, sd_slot, denF, denFI, stepF, slotFree, slotOf, foot, avIdx, wrAll, pairsOk, apartL, ← hZ, hd11, hDt, rs_len, hZl, hZd, lR, hRt, k1 k (by omega), k2 k (by omega), k3 k (by omega), allR, AV.toR, ← hH, g2, hl, k4, h4, h6, f2, hsm, fz, fzs]
    · rw [hDV] at hl k2 g2 f2 hH ⊢
      simp [cj_fz, a_tally_Ask, l21, dn_drawF, sd_slot, denF, denFI, stepF, slotFree, slotOf, foot, avIdx, wrAll, pairsOk, apartL, ← hZ, hd11, hDt, rs_len, hZl, hZd, lR, hRt, k1 k (by omega), k2 k (by omega), k3 k (by omega), allR, AV.toR, ← hH, g2, hl, k4, h4, h6, f2, hsm, fz, fzs]
end
end Go.AM.T
/- What the functions compute (own work). -/
namespace Go.AM.T
open Go Go.AM
attribute [local simp] so_mov so_pick so_alloc so_box so_build so_slit so_load so_store so_nilc so_bin so_beq so_eqs so_eqn so_eqnl so_not so_conv so_s2b so_mkfn so_slcA so_padd so_fld so_idxA so_idxV so_idxT so_look so_mupd so_mkmap so_mksl so_ext so_app so_lenT so_lenM so_min so_max so_cpy so_clr so_mkif so_tass so_lenS so_idxS so_slc
attribute [local simp] dn_skip dn_label dn_ret dn_exit dn_scope dn_keep dn_reg dn_draw0 noSlots denE denEI stepE  sd_mov sd_pick sd_build sd_load sd_store sd_nilc sd_bin sd_beq sd_eqs sd_eqn sd_eqnl sd_not sd_conv sd_s2b sd_mkfn sd_slc sd_slcA sd_padd sd_fld sd_idxS sd_idxA sd_idxV sd_idxT sd_look sd_mupd sd_ext sd_app sd_lenS sd_lenT sd_lenM sd_min sd_max sd_mkif sd_tass sd_call sd_slit dn_seq dn_cond dn_block dn_loop kn_call denIs denI denOp wants ev eget putD binL enumFrom AV.bool? AV.int? ekeep evs evp runV fin runDefs resAll resOf tupOf unit AV.cells okV ok1 Value.oneCell' fill setN rcells rs_nil rs_cons load_own load_cons mkAgg_rs storeN jmpOut
attribute [local simp] dvL dv1t dvAt mkAgg2 dv0 dv1 dv2 dv3 dv4 dv5 dv6 dv7 dv8 dv9 dv10 dvA dvN dvAll C_fz fzr
def il (l : List Int) : RV := .sl (ints .i64 l) l.length (some l.length)
def ul (l : List Int) : RV := .sl (ints .u8 l) l.length (some l.length)
def pl (l : List (Int × Int)) : RV := .sl (prs l) l.length (some l.length)
/-- The division of the document's examples. -/
def lobD : Div := ⟨6, [0, 1, 2], [0, 1, 3], [4, 5], [4, 5], [], [(4, 3)], 0, 0, 3, 2⟩
def lobC : List RV := divC lobD (il [0, 1, 2]) (il [0, 1, 3]) (il [4, 5]) (il [4, 5]) .nil (pl [(4, 3)])
theorem il_S (l : List Int) : SlI l (il l) := Sl.mk _ _ _
theorem pl_S (l : List (Int × Int)) : SlP l (pl l) := Sl.mk _ _ _
theorem lobS : DivS lobD (il [0, 1, 2]) (il [0, 1, 3]) (il [4, 5]) (il [4, 5]) .nil (pl [(4, 3)]) := ⟨il_S _, il_S _, il_S _, il_S _, Sl.nil, pl_S _⟩
theorem lobbies_spec (m : Mem) : CallR C (fnv fn_law07_lobbies) [] m (.ret (.r (.agg lobC)) m) := by
  refine CallR.eval (m1 := { h := m.h ++ [.cells (rs lobC) ty_tally_Division 0], wr := [m.h.length] }) rfl rfl prog_law07_lobbies rfl ⟨0, fun k hk => ?_⟩ (by simp) (by simp)
  simp [a_law07_lobbies, allR, AV.toR, mkAgg, repl, lobC, divC, il, pl, ints, prs, lobD]
theorem lobOpen : openI lobD = 0 := by kernel_rfl
theorem lobDoubts : doubtsL lobD = [2, 3] := by kernel_rfl
theorem lobBn : (bnL lobD).a = (2, 4) ∧ (bnL lobD).b = (2, 3) := ⟨by kernel_rfl, by kernel_rfl⟩
theorem lobAl : alS lobD = [0, 1] := by kernel_rfl
theorem lobAsk : askR lobD = slI [3] := by
  have : askL lobD = [3] := by kernel_rfl
  unfold askR
  rw [if_pos lobOpen, this]
theorem lobSmall : Small lobD := ⟨by decide, by decide, by decide, by decide, by decide, by decide⟩
theorem lobRule : 0 ≤ lobD.rule ∧ lobD.rule ≤ 255 := by decide
/-- The law's examples hold, whatever memory holds. -/
theorem wakesJ_spec {J : Nat} (hJ : 10 ≤ J) (m : Mem) : CallR (CJ J) (fnv fn_law07_wakes) [] m (.ret (bo true) m) := by
  have hf : faultI lobD = 0 := by kernel_rfl
  obtain ⟨c1, k1⟩ := CallR.cj J (lobbies_spec { h := m.h })
  obtain ⟨c2, k2⟩ := CallR.cj J (Doubts_spec lobS lobSmall lobRule { h := m.h })
  obtain ⟨c3, k3⟩ := CallR.cj J (Bounds_spec lobS lobSmall lobRule { h := m.h })
  obtain ⟨H, hH⟩ : ∃ H, H = m.h ++ [.cells [i64 2, i64 4] ty_tally_Range 0, .cells [i64 2, i64 3] ty_tally_Range 0] := ⟨_, rfl⟩
  obtain ⟨c4, k4⟩ := CallR.cj J (lobbies_spec { h := H, wr := [m.h.length + 1, m.h.length] })
  obtain ⟨c5, k5⟩ := CallR.cj J (Allowed_spec lobS lobSmall lobRule { h := H, wr := [m.h.length + 1, m.h.length] })
  obtain ⟨c6, k6⟩ := Ask_spec lobS lobSmall lobRule hJ { h := H, wr := [m.h.length + 1, m.h.length] }
  rw [if_pos hf, hf, lobDoubts] at k2
  rw [if_pos lobOpen, if_pos lobOpen, lobOpen, lobBn.1, lobBn.2] at k3
  rw [if_pos lobOpen, lobOpen, lobAl] at k5
  rw [lobAsk, lobOpen] at k6
  have g0 : H[m.h.length]? = some (.cells [i64 2, i64 4] ty_tally_Range 0) := by simp [hH]
  have g1 : H[m.h.length + 1]? = some (.cells [i64 2, i64 3] ty_tally_Range 0) := by simp [hH]
  obtain ⟨c7, k7⟩ := CallR.cj J (law07_ints_spec (Sl.slI [2, 3]) (il_S [2, 3]) (by decide) { h := H, wr := [m.h.length + 1, m.h.length] })
  obtain ⟨c8, k8⟩ := CallR.cj J (law07_ints_spec (Sl.slI [3]) (il_S [3]) (by decide) { h := H, wr := [m.h.length + 1, m.h.length] })
  obtain ⟨c9, k9⟩ := CallR.cj J (law07_votes_spec (l := [0, 1]) (k := [0, 1]) (v := .sl (ints .u8 [0, 1]) 2 none) (w := .sl (ints .u8 [0, 1]) 2 (some 2)) (Sl.mk _ _ _) (Sl.mk _ _ _) (by decide) { h := H, wr := [m.h.length + 1, m.h.length] })
  obtain ⟨Lc, hLc⟩ : ∃ Lc, Lc = lobC := ⟨_, rfl⟩
  rw [show divC lobD (il [0, 1, 2]) (il [0, 1, 3]) (il [4, 5]) (il [4, 5]) .nil (pl [(4, 3)]) = lobC from rfl, ← hLc] at k2 k3 k5 k6
  rw [← hLc] at k1 k4
  have ht : H.take m.h.length = m.h := by simp [hH]
  refine CallR.eval (m1 := { h := H, wr := [m.h.length + 1, m.h.length] }) (cj_ext0 J (by decide)) (by rw [cj_keep]; rfl) (by rw [cj_prog]; exact prog_law07_wakes) rfl ⟨c1 + c2 + c3 + c4 + c5 + c6 + c7 + c8 + c9, fun k hk => ?_⟩ ht (by simp)
  have k7 := k7 k (by omega)
  have k8 := k8 k (by omega)
  have k9 := k9 k (by omega)
  simp [slI, gsV, ints, il] at k7 k8 k9
  have k2 := k2 k (by omega)
  have k3 := k3 k (by omega)
  have k5 := k5 k (by omega)
  have k6 := k6 k (by omega)
  simp [slI, gsV, ints, nmR] at k2 k3 k5 k6
  simp [cj_fz, a_law07_wakes, k1 k (by omega), k2, k3, k4 k (by omega), k5, k6, ← hH, allR, AV.toR, repl, mkAgg, k7, k8, k9, g0, g1, rvEqs, rvEq]
end Go.AM.T
/- What the functions compute (own work). -/
namespace Go.AM.T
open Go Go.AM
attribute [local simp] so_mov so_pick so_alloc so_box so_build so_slit so_load so_store so_nilc so_bin so_beq so_eqs so_eqn so_eqnl so_not so_conv so_s2b so_mkfn so_slcA so_padd so_fld so_idxA so_idxV so_idxT so_look so_mupd so_mkmap so_mksl so_ext so_app so_lenT so_lenM so_min so_max so_cpy so_clr so_mkif so_tass so_lenS so_idxS so_slc
attribute [local simp] dn_skip dn_label dn_ret dn_exit dn_scope dn_keep dn_reg dn_draw0 noSlots denE denEI stepE  sd_mov sd_pick sd_build sd_load sd_store sd_nilc sd_bin sd_beq sd_eqs sd_eqn sd_eqnl sd_not sd_conv sd_s2b sd_mkfn sd_slc sd_slcA sd_padd sd_fld sd_idxS sd_idxA sd_idxV sd_idxT sd_look sd_mupd sd_ext sd_app sd_lenS sd_lenT sd_lenM sd_min sd_max sd_mkif sd_tass sd_call sd_slit dn_seq dn_cond dn_block dn_loop kn_call denIs denI denOp wants ev eget putD binL enumFrom AV.bool? AV.int? ekeep evs evp runV fin runDefs resAll resOf tupOf unit AV.cells okV ok1 Value.oneCell' fill setN rcells rs_nil rs_cons load_own load_cons mkAgg_rs storeN jmpOut
attribute [local simp] dvL dv1t dvAt mkAgg2 dv0 dv1 dv2 dv3 dv4 dv5 dv6 dv7 dv8 dv9 dv10 dvA dvN dvAll C_fz fzr
/-- A division with other lists that tell the same: its answers are the same. -/
structure SwD (e d : Div) : Prop where
  n : e.n = d.n
  pairs : e.pairs = d.pairs
  proxies : e.proxies = d.proxies
  rule : e.rule = d.rule
  need : e.need = d.need
  quorum : e.quorum = d.quorum
  tie : e.tie = d.tie
  a : ∀ x, onB e.a0 e.a1 x = onB d.a0 d.a1 x
  b : ∀ x, onB e.n0 e.n1 x = onB d.n0 d.n1 x
  right : rightB e = rightB d
theorem SwD.may {e d : Div} (h : SwD e d) (x : Int) : T.may e x = T.may d x := by unfold T.may; rw [h.a, h.b]
theorem SwD.clash {e d : Div} (h : SwD e d) : clashB e = clashB d := by
  unfold clashB
  rw [h.n]
  congr 1
  funext m
  unfold bothB
  rw [h.a, h.b]
theorem SwD.doubts {e d : Div} (h : SwD e d) : doubtsL e = doubtsL d := by
  unfold doubtsL
  rw [h.n]
  have : (fun i : Nat => decide (1 < (T.may e i).length)) = fun i : Nat => decide (1 < (T.may d i).length) := by funext i; rw [h.may]
  rw [this]
theorem SwD.fault {e d : Div} (h : SwD e d) : faultI e = faultI d := by unfold faultI; rw [h.right, h.clash]
theorem SwD.opn {e d : Div} (h : SwD e d) : openI e = openI d := by unfold openI; rw [h.fault, h.doubts]
theorem SwD.from {e d : Div} (h : SwD e d) : ∀ (r k : Nat) (t : List Int), truthsFrom e r k t = truthsFrom d r k t
  | 0, k, t => rfl
  | r + 1, k, t => by
    unfold truthsFrom
    rw [h.may]
    congr 1
    funext v
    exact h.from r (k + 1) (t.set k v)
theorem SwD.truths {e d : Div} (h : SwD e d) : truthsOf e = truthsOf d := by unfold truthsOf; rw [h.n, h.from]
theorem SwD.nums {e d : Div} (h : SwD e d) (t : List Int) : numsL e t = numsL d t := by
  have h1 : memStep e t = memStep d t := by funext n i; unfold memStep; rw [h.pairs]
  have h2 : proxStep e t = proxStep d t := by funext n p; unfold proxStep; rw [h.pairs]
  unfold numsL numsM
  rw [h1, h2, h.n, h.proxies]
theorem SwD.outcome {e d : Div} (h : SwD e d) (n : Int × Int) : outcomeI e n = outcomeI d n := by
  unfold outcomeI carriedB
  rw [h.quorum, h.rule, h.tie, h.need]
theorem SwD.bn {e d : Div} (h : SwD e d) : bnL e = bnL d := by
  have : bnStep e = bnStep d := by funext s t; unfold bnStep; rw [h.nums]
  unfold bnL
  rw [h.truths, this]
theorem SwD.dec {e d : Div} (h : SwD e d) (ms : List Int) : decB e ms = decB d ms := by
  have : ansO e ms (truthsOf e) = ansO d ms (truthsOf d) := by
    unfold ansO
    rw [h.truths]
    congr 1
    funext t
    rw [h.nums, h.outcome]
  unfold decB
  rw [this]
theorem SwD.ask {e d : Div} (h : SwD e d) : askR e = askR d := by
  have h1 : decB e = decB d := by funext ms; exact h.dec ms
  have h2 : askC e = askC d := by unfold askC; rw [h.doubts]
  unfold askR askL
  rw [h.opn, h1, h2, h.doubts]
theorem onB_comm (l0 l1 : List Int) (x : Int) : onB l1 l0 x = onB l0 l1 x := by unfold onB; omega
theorem swA_ok (d : Div) : SwD { d with a0 := d.a1, a1 := d.a0 } d where
  n := rfl
  pairs := rfl
  proxies := rfl
  rule := rfl
  need := rfl
  quorum := rfl
  tie := rfl
  a := fun x => onB_comm d.a0 d.a1 x
  b := fun x => rfl
  right := by
    have : listsB { d with a0 := d.a1, a1 := d.a0 } = listsB d := by
      unfold listsB
      simp only
      cases listB d.n d.a0 <;> cases listB d.n d.a1 <;> cases listB d.n d.n0 <;> cases listB d.n d.n1 <;> rfl
    unfold rightB
    rw [this]
    rfl
theorem swN_ok (d : Div) : SwD { d with n0 := d.n1, n1 := d.n0 } d where
  n := rfl
  pairs := rfl
  proxies := rfl
  rule := rfl
  need := rfl
  quorum := rfl
  tie := rfl
  a := fun x => rfl
  b := fun x => onB_comm d.n0 d.n1 x
  right := by
    have : listsB { d with n0 := d.n1, n1 := d.n0 } = listsB d := by
      unfold listsB
      simp only
      cases listB d.n d.a0 <;> cases listB d.n d.a1 <;> cases listB d.n d.n0 <;> cases listB d.n d.n1 <;> rfl
    unfold rightB
    rw [this]
    rfl
/-! ### lists that agree -/
def agrD (d : Div) : Div := { d with a1 := d.a0, n1 := d.n0 }
theorem onB_same (l : List Int) (x : Int) : onB l l x = 0 ∨ onB l l x = 2 := by
  unfold onB b2i
  cases l.contains x <;> simp
theorem agr_right {d : Div} (h : rightB d = true) : rightB (agrD d) = true := by
  unfold rightB listsB at h
  simp only [Bool.and_eq_true] at h
  obtain ⟨⟨⟨h1, ⟨h2, h3⟩, _⟩, h5⟩, h6⟩ := h
  unfold rightB listsB agrD
  simp only [h2, h3, Bool.and_true, Bool.true_and, Bool.and_eq_true]
  exact ⟨⟨h1, h5⟩, h6⟩
theorem agr_may (d : Div) (x : Int) : (may (agrD d) x).length ≤ 1 := by
  unfold may votesL agrD
  simp only
  rcases onB_same d.a0 x with e0 | e0 <;> rcases onB_same d.n0 x with e1 | e1 <;> rw [e0, e1] <;> decide
theorem agr_doubts (d : Div) : doubtsL (agrD d) = [] := by
  unfold doubtsL
  rw [List.map_eq_nil_iff, List.filter_eq_nil_iff]
  intro i _
  have := agr_may d i
  simp; omega
theorem agr_open (d : Div) : openI (agrD d) = faultI (agrD d) := by
  unfold openI
  rw [agr_doubts]
  by_cases h : faultI (agrD d) = 0
  · rw [if_pos h, h]; rfl
  · rw [if_neg h]
theorem agr_ask {d : Div} (h : openI (agrD d) = 0) : askR (agrD d) = slI [] := by
  unfold askR askL askC
  rw [if_pos h, agr_doubts]
  rfl
theorem agr_al {d : Div} (h : openI (agrD d) = 0) : (alS (agrD d)).length = 1 := by
  have hn := right_n (openI0 h).1
  have hne := rtOf_ne h
  have hcnt : (rtOf (agrD d)).length ≤ 1 := by
    have h1 := rtF_count (d := agrD d) (agrD d).n.toNat []
    have h2 : ∀ r k, dcnt (agrD d) k r = 0 := by
      intro r
      induction r with
      | zero => intro k; rfl
      | succ r ih =>
        intro k
        unfold dcnt
        rw [ih, if_neg (by have := agr_may d k; omega)]
    rw [h2] at h1
    simpa [rtOf] using h1
  obtain ⟨u, us, hu⟩ : ∃ u us, rtOf (agrD d) = u :: us := by
    cases hc : rtOf (agrD d) with
    | nil => exact absurd hc hne
    | cons u us => exact ⟨u, us, rfl⟩
  have hus : us = [] := by
    rw [hu] at hcnt
    simp at hcnt
    exact hcnt
  have hc : ∀ o : Int, (alL (agrD d)).contains o = (outcomeI (agrD d) (numsL (agrD d) u) == o) := fun o => by
    rw [alL_rt hn.2, hu, hus]; simp
  unfold alS
  obtain ⟨z, hz⟩ : ∃ z, z = outcomeI (agrD d) (numsL (agrD d) u) := ⟨_, rfl⟩
  have h3 : z = 0 ∨ z = 1 ∨ z = 2 := by
    rw [hz]
    unfold outcomeI
    split
    · simp
    · split <;> simp
  have hf : (fun o => (alL (agrD d)).contains o) = fun o => z == o := by funext o; rw [hc, hz]
  rw [hf]
  rcases h3 with rfl | rfl | rfl <;> rfl
end Go.AM.T
/- What the functions compute (own work). -/
namespace Go.AM.T
open Go Go.AM
attribute [local simp] so_mov so_pick so_alloc so_box so_build so_slit so_load so_store so_nilc so_bin so_beq so_eqs so_eqn so_eqnl so_not so_conv so_s2b so_mkfn so_slcA so_padd so_fld so_idxA so_idxV so_idxT so_look so_mupd so_mkmap so_mksl so_ext so_app so_lenT so_lenM so_min so_max so_cpy so_clr so_mkif so_tass so_lenS so_idxS so_slc
attribute [local simp] dn_skip dn_label dn_ret dn_exit dn_scope dn_keep dn_reg dn_draw0 noSlots denE denEI stepE  sd_mov sd_pick sd_build sd_load sd_store sd_nilc sd_bin sd_beq sd_eqs sd_eqn sd_eqnl sd_not sd_conv sd_s2b sd_mkfn sd_slc sd_slcA sd_padd sd_fld sd_idxS sd_idxA sd_idxV sd_idxT sd_look sd_mupd sd_ext sd_app sd_lenS sd_lenT sd_lenM sd_min sd_max sd_mkif sd_tass sd_call sd_slit dn_seq dn_cond dn_block dn_loop kn_call denIs denI denOp wants ev eget putD binL enumFrom AV.bool? AV.int? ekeep evs evp runV fin runDefs resAll resOf tupOf unit AV.cells okV ok1 Value.oneCell' fill setN rcells rs_nil rs_cons load_own load_cons mkAgg_rs storeN jmpOut
attribute [local simp] dvL dv1t dvAt mkAgg2 dv0 dv1 dv2 dv3 dv4 dv5 dv6 dv7 dv8 dv9 dv10 dvA dvN dvAll C_fz fzr
theorem cmb_len : ∀ (k : Nat) (rest now c : List Int), c ∈ cmb k rest now → c.length = now.length + k
  | 0, rest, now, c, h => by simp [cmb] at h; rw [h]; rfl
  | k + 1, [], now, c, h => by simp [cmb] at h
  | k + 1, x :: r, now, c, h => by
    rw [show cmb (k + 1) (x :: r) now = cmb k r (now ++ [x]) ++ cmb (k + 1) r now from rfl] at h
    rcases List.mem_append.1 h with h | h
    · have := cmb_len k r (now ++ [x]) c h
      simp at this; omega
    · exact cmb_len (k + 1) r now c h
theorem askL_len (d : Div) : (askL d).length ≤ (doubtsL d).length := by
  unfold askL
  cases h : (askC d).find? (decB d) with
  | none => exact Nat.le_refl _
  | some c =>
    have hm := List.mem_of_find?_eq_some h
    unfold askC at hm
    obtain ⟨k, hk, hc⟩ := List.mem_flatMap.1 hm
    have := cmb_len _ _ _ _ hc
    simp at this hk
    show c.length ≤ _
    omega
section
variable {d : Div} {a0 a1 n0 n1 p q : RV}
def agrC (d : Div) : List RV := divC (agrD d) (listV d.a0) (listV d.a0) (listV d.n0) (listV d.n0) (pairV d.pairs) (pairV d.proxies)
theorem agrS (d : Div) : DivS (agrD d) (listV d.a0) (listV d.a0) (listV d.n0) (listV d.n0) (pairV d.pairs) (pairV d.proxies) :=
  ⟨Sl.listV _, Sl.listV _, Sl.listV _, Sl.listV _, SlP.pairV _, SlP.pairV _⟩
theorem agrSmall (hb : Small d) : Small (agrD d) := ⟨hb.a0, hb.a0, hb.n0, hb.n0, hb.p, hb.q⟩
def swD' (d : Div) (aye : Bool) : Div := if aye then { d with a0 := d.a1, a1 := d.a0 } else { d with n0 := d.n1, n1 := d.n0 }
def swC (d : Div) (aye : Bool) : List RV := if aye then divC (swD' d true) (listV d.a1) (listV d.a0) (listV d.n0) (listV d.n1) (pairV d.pairs) (pairV d.proxies) else divC (swD' d false) (listV d.a0) (listV d.a1) (listV d.n1) (listV d.n0) (pairV d.pairs) (pairV d.proxies)
theorem swD'_ok (d : Div) (aye : Bool) : SwD (swD' d aye) d := by
  cases aye with
  | true => exact swA_ok d
  | false => exact swN_ok d
theorem swSmall (hb : Small d) (aye : Bool) : Small (swD' d aye) := by
  cases aye with
  | true => exact ⟨hb.a1, hb.a0, hb.n0, hb.n1, hb.p, hb.q⟩
  | false => exact ⟨hb.a0, hb.a1, hb.n1, hb.n0, hb.p, hb.q⟩
theorem alikeJ_spec (hs : DivS d a0 a1 n0 n1 p q) (hb : Small d) (hru : 0 ≤ d.rule ∧ d.rule ≤ 255) (aye : Bool) {J : Nat} (hJ : 10 ≤ J) :
    CallR (CJ J) (fnv fn_law07_TallyAlike) [.r (.agg (divC d a0 a1 n0 n1 p q)), bo aye] { h := [] } (.ret (bo true) { h := [] }) := by
  have hd11 : (divC d a0 a1 n0 n1 p q).length = 11 := rfl
  have hx := cj_ext0 J (f := fn_law07_TallyAlike) (by decide)
  have hkp : (CJ J).keepAll fn_law07_TallyAlike = false := by rw [cj_keep]; rfl
  have hpr : (CJ J).prog fn_law07_TallyAlike = some a_law07_TallyAlike := by rw [cj_prog]; exact prog_law07_TallyAlike
  obtain ⟨c1, k1⟩ := CallR.cj J (Few_spec hs { h := [.cells (rs (divC d a0 a1 n0 n1 p q)) ty_ref07_Division 0] })
  obtain ⟨c2, k2⟩ := CallR.cj J (Right_spec hs hb { h := [.cells (rs (divC d a0 a1 n0 n1 p q)) ty_ref07_Division 0] })
  obtain ⟨c3, k3⟩ := wakesJ_spec hJ { h := [.cells (rs (divC d a0 a1 n0 n1 p q)) ty_ref07_Division 0] }
  obtain ⟨D, hD⟩ : ∃ D, D = divC d a0 a1 n0 n1 p q := ⟨_, rfl⟩
  by_cases hfr : fewB d = true ∧ rightB d = true
  case neg =>
    rw [← hD] at k1 k2 k3 hd11 ⊢
    have hDt : List.take 11 (rs D) = rs D := List.take_of_length_le (by rw [rs_len]; omega)
    refine CallR.eval (m1 := { h := [.cells (rs D) ty_ref07_Division 0] }) hx hkp hpr rfl ⟨c1 + c2 + c3, fun k hk => ?_⟩ (by simp) (by simp)
    cases hf : fewB d with
    | false =>
      rw [hf] at k1
      simp [cj_fz, a_law07_TallyAlike, rs_len, hd11, hDt, k1 k (by omega), k3 k (by omega)]
    | true =>
      have hr : rightB d = false := by
        cases h : rightB d with
        | false => rfl
        | true => exact absurd ⟨hf, h⟩ hfr
      rw [hf] at k1
      rw [hr] at k2
      simp [cj_fz, a_law07_TallyAlike, rs_len, hd11, hDt, k1 k (by omega), k2 k (by omega), k3 k (by omega)]
  obtain ⟨hfew, hr⟩ := hfr
  rw [hfew] at k1
  rw [hr] at k2
  have hl : d.a0.length ≤ 45 ∧ d.n0.length ≤ 45 := by
    have h := hfew
    simp [fewB, few1] at h
    omega
  obtain ⟨c4, k4⟩ := CallR.cj J (lawDivision_spec hs hfew { h := [.cells (rs (divC d a0 a1 n0 n1 p q)) ty_ref07_Division 0] })
  obtain ⟨c5, k5⟩ := CallR.cj J (lawlist_spec hs.a0 hl.1 { h := [.cells (rs (divC d a0 a1 n0 n1 p q)) ty_ref07_Division 0, .cells (rs (copyC d)) ty_tally_Division 0] })
  obtain ⟨c6, k6⟩ := CallR.cj J (lawlist_spec hs.n0 hl.2 { h := [.cells (rs (divC d a0 a1 n0 n1 p q)) ty_ref07_Division 0, .cells (rs (copyC d)) ty_tally_Division 0] })
  obtain ⟨H2, hH2⟩ : ∃ H2 : List Blk, H2 = [.cells (rs (divC d a0 a1 n0 n1 p q)) ty_ref07_Division 0, .cells (rs (agrC d)) ty_tally_Division 0] := ⟨_, rfl⟩
  obtain ⟨W2, hW2⟩ : ∃ W2 : List Nat, W2 = [1, 1, 1] := ⟨_, rfl⟩
  obtain ⟨c7, k7⟩ := CallR.cj J (Doubts_spec (agrS d) (agrSmall hb) hru { h := H2, wr := W2 })
  obtain ⟨c8, k8⟩ := CallR.cj J (Allowed_spec (agrS d) (agrSmall hb) hru { h := H2, wr := W2 })
  obtain ⟨c9, k9⟩ := Ask_spec (agrS d) (agrSmall hb) hru hJ { h := H2, wr := W2 }
  obtain ⟨c10, k10⟩ := CallR.cj J (tClash_spec (agrS d) (agrSmall hb) hru { h := H2, wr := W2 })
  obtain ⟨c11, k11⟩ := CallR.cj J (ready_spec hs hb { h := H2, wr := W2 })
  obtain ⟨c12, k12⟩ := wakesJ_spec hJ { h := H2, wr := W2 }
  rw [agr_doubts] at k7
  rw [agr_open] at k8 k9
  rw [agr_right hr] at k10
  rw [hfew, Bool.true_and] at k11
  rw [show divC (agrD d) (listV d.a0) (listV d.a0) (listV d.n0) (listV d.n0) (pairV d.pairs) (pairV d.proxies) = agrC d from rfl] at k7 k8 k9 k10
  obtain ⟨X, hX⟩ : ∃ X, X = copyC d := ⟨_, rfl⟩
  obtain ⟨Y, hY⟩ : ∃ Y, Y = agrC d := ⟨_, rfl⟩
  obtain ⟨I0, b0, hL0⟩ : ∃ I c, listV d.a0 = .sl I d.a0.length c := ⟨_, _, rfl⟩
  obtain ⟨I1, b1, hL1⟩ : ∃ I c, listV d.a1 = .sl I d.a1.length c := ⟨_, _, rfl⟩
  obtain ⟨I2, b2, hL2⟩ : ∃ I c, listV d.n0 = .sl I d.n0.length c := ⟨_, _, rfl⟩
  obtain ⟨I3, b3, hL3⟩ : ∃ I c, listV d.n1 = .sl I d.n1.length c := ⟨_, _, rfl⟩
  obtain ⟨L0, eL0⟩ : ∃ L, L = RV.sl I0 d.a0.length b0 := ⟨_, rfl⟩
  have lX : X.length = 11 := by rw [hX]; rfl
  have lY : Y.length = 11 := by rw [hY]; rfl
  have tX : List.take 11 (rs X) = rs X := List.take_of_length_le (by rw [rs_len]; omega)
  have tY : List.take 11 (rs Y) = rs Y := List.take_of_length_le (by rw [rs_len]; omega)
  have r1 : List.take 1 (List.drop 1 (rs D)) = [.r a0] := by rw [hD]; rfl
  have r3 : List.take 1 (List.drop 3 (rs D)) = [.r n0] := by rw [hD]; rfl
  have r1' : List.take 1 (rs D).tail = [.r a0] := by rw [hD]; rfl
  obtain ⟨X1, hX1⟩ : ∃ X1, X1 = divC { d with a1 := d.a0 } (listV d.a0) (listV d.a0) (listV d.n0) (listV d.n1) (pairV d.pairs) (pairV d.proxies) := ⟨_, rfl⟩
  have lX1 : X1.length = 11 := by rw [hX1]; rfl
  have s1 : List.take 2 (rs X) ++ .r (.sl I0 d.a0.length b0) :: List.drop 3 (rs X) = rs X1 := by rw [← hL0, hX, hX1]; rfl
  have s2 : List.take 4 (rs X1) ++ .r (.sl I2 d.n0.length b2) :: List.drop 5 (rs X1) = rs Y := by rw [← hL2, hX1, hY]; rfl
  rw [hL0] at k5
  rw [hL2] at k6
  rw [← hX] at k4 k5 k6
  rw [← hY] at k7 k8 k9 k10 hH2
  have hal := agr_al (d := d)
  have hls : ∀ (cs : List RV) (n : Nat) (c : Option Nat), lenOf (.r (.sl cs n c)) = some n := fun _ _ _ => rfl
  have hfv : faultI (agrD d) = 0 ∨ faultI (agrD d) = 9 := by
    unfold faultI
    rw [agr_right hr]
    cases (clashB (agrD d)).isSome <;> simp
  have hcl9 : faultI (agrD d) = 9 → (clashB (agrD d)).isSome = true := fun h => by
    unfold faultI at h
    rw [agr_right hr] at h
    cases hc : (clashB (agrD d)).isSome with
    | true => rfl
    | false => rw [hc] at h; simp at h
  rw [← hD] at k1 k2 k4 k5 k6 k11 hH2 hd11 ⊢
  have hDt : List.take 11 (rs D) = rs D := List.take_of_length_le (by rw [rs_len]; omega)
  have l0 : lenOf (.r .nil) = some 0 := rfl
  have g0 : H2[0]? = some (.cells (rs D) ty_ref07_Division 0) := by rw [hH2]; rfl
  have g1 : H2[1]? = some (.cells (rs Y) ty_tally_Division 0) := by rw [hH2]; rfl
  by_cases ho : openI d = 0
  case neg =>
    rw [decide_eq_false ho] at k11
    refine CallR.eval (m1 := { h := H2, wr := W2 }) hx hkp hpr rfl ⟨c1 + c2 + c3 + c4 + c5 + c6 + c7 + c8 + c9 + c10 + c11 + c12, fun k hk => ?_⟩ (by simp) (by simp)
    rcases hfv with hF | hF
    · rw [hF] at k7 k8 k9
      rw [if_pos rfl] at k7 k8
      have hoa : openI (agrD d) = 0 := by rw [agr_open]; exact hF
      rw [agr_ask hoa] at k9
      have hal := hal hoa
      obtain ⟨S, hS⟩ : ∃ S : List Int, S = alS (agrD d) := ⟨_, rfl⟩
      rw [← hS] at k8 hal
      simp [slI, gsV, ints] at k7 k9
      simp [cj_fz, a_law07_TallyAlike, rs_len, hd11, hDt, k1 k (by omega), k2 k (by omega), k4 k (by omega), dn_drawF, denF, denFI, stepF, slotFree, slotOf, foot, avIdx, wrAll, pairsOk, apartL, r1, r1', r3, k5 k (by omega), k6 k (by omega), lX, lX1, lY, tX, tY, s1, s2, ← hW2, ← hH2, g0, gq g0, g1, gq g1, k7 k (by omega), k8 k (by omega), k9 k (by omega), hls, l0, hal, k11 k (by omega), k12 k (by omega), mkAgg, allR_rs]
    · rw [hF] at k7
      rw [hcl9 hF] at k10
      simp at k10
      simp at k7
      simp [cj_fz, a_law07_TallyAlike, rs_len, hd11, hDt, k1 k (by omega), k2 k (by omega), k4 k (by omega), dn_drawF, denF, denFI, stepF, slotFree, slotOf, foot, avIdx, wrAll, pairsOk, apartL, r1, r1', r3, k5 k (by omega), k6 k (by omega), lX, lX1, lY, tX, tY, s1, s2, ← hW2, ← hH2, g0, gq g0, g1, gq g1, k7 k (by omega), k10 k (by omega), hls, l0, hal, k11 k (by omega), k12 k (by omega), mkAgg, allR_rs]
  rw [decide_eq_true ho] at k11
  have hsw := swD'_ok d aye
  obtain ⟨Z, hZ⟩ : ∃ Z, Z = swC d aye := ⟨_, rfl⟩
  have lZ : Z.length = 11 := by rw [hZ]; cases aye <;> rfl
  have tZ : List.take 11 (rs Z) = rs Z := List.take_of_length_le (by rw [rs_len]; omega)
  have zS : ∃ x0 x1 y0 y1, swC d aye = divC (swD' d aye) x0 x1 y0 y1 (pairV d.pairs) (pairV d.proxies) ∧ DivS (swD' d aye) x0 x1 y0 y1 (pairV d.pairs) (pairV d.proxies) := by
    cases aye with
    | true => exact ⟨_, _, _, _, rfl, ⟨Sl.listV _, Sl.listV _, Sl.listV _, Sl.listV _, SlP.pairV _, SlP.pairV _⟩⟩
    | false => exact ⟨_, _, _, _, rfl, ⟨Sl.listV _, Sl.listV _, Sl.listV _, Sl.listV _, SlP.pairV _, SlP.pairV _⟩⟩
  obtain ⟨x0, x1, y0, y1, zE, zS⟩ := zS
  have hruz : 0 ≤ (swD' d aye).rule ∧ (swD' d aye).rule ≤ 255 := by rw [hsw.rule]; exact hru
  obtain ⟨A, hA⟩ : ∃ A, A = (bnL d).a := ⟨_, rfl⟩
  obtain ⟨B, hB⟩ : ∃ B, B = (bnL d).b := ⟨_, rfl⟩
  obtain ⟨H3, hH3⟩ : ∃ H3 : List Blk, H3 = [.cells (rs D) ty_ref07_Division 0, .cells (rs Y) ty_tally_Division 0, .cells (rs Z) ty_tally_Division 0] := ⟨_, rfl⟩
  obtain ⟨W3, hW3⟩ : ∃ W3 : List Nat, W3 = 2 :: 2 :: 2 :: W2 := ⟨_, rfl⟩
  obtain ⟨H4, hH4⟩ : ∃ H4 : List Blk, H4 = [.cells (rs D) ty_ref07_Division 0, .cells (rs Y) ty_tally_Division 0, .cells (rs Z) ty_tally_Division 0, .cells [i64 A.1, i64 A.2] ty_tally_Range 0, .cells [i64 B.1, i64 B.2] ty_tally_Range 0] := ⟨_, rfl⟩
  obtain ⟨W4, hW4⟩ : ∃ W4 : List Nat, W4 = 4 :: 3 :: W3 := ⟨_, rfl⟩
  obtain ⟨H5, hH5⟩ : ∃ H5 : List Blk, H5 = [.cells (rs D) ty_ref07_Division 0, .cells (rs Y) ty_tally_Division 0, .cells (rs Z) ty_tally_Division 0, .cells [i64 A.1, i64 A.2] ty_tally_Range 0, .cells [i64 B.1, i64 B.2] ty_tally_Range 0, .cells [i64 A.1, i64 A.2] ty_tally_Range 0, .cells [i64 B.1, i64 B.2] ty_tally_Range 0] := ⟨_, rfl⟩
  obtain ⟨W5, hW5⟩ : ∃ W5 : List Nat, W5 = 6 :: 5 :: W4 := ⟨_, rfl⟩
  obtain ⟨c13, k13⟩ := CallR.cj J (lawDivision_spec hs hfew { h := H2, wr := W2 })
  obtain ⟨c14, k14⟩ := CallR.cj J (lawDivision_spec hs hfew { h := H3, wr := W3 })
  obtain ⟨c15, k15⟩ := CallR.cj J (Bounds_spec (copyS d) hb hru { h := H3, wr := W3 })
  obtain ⟨c16, k16⟩ := CallR.cj J (Bounds_spec zS (swSmall hb aye) hruz { h := H4, wr := W4 })
  obtain ⟨c17, k17⟩ := CallR.cj J (lawDivision_spec hs hfew { h := H5, wr := W5 })
  obtain ⟨c18, k18⟩ := Ask_spec (copyS d) hb hru hJ { h := H5, wr := W5 }
  obtain ⟨c19, k19⟩ := Ask_spec zS (swSmall hb aye) hruz hJ { h := H5, wr := W5 }
  obtain ⟨c20, k20⟩ := CallR.cj J (law07_ints_spec (Sl.slI (askL d)) (Sl.slI (askL d)) (by have := askL_len d; have := doubtsL_len d; have := right_n hr; omega) { h := H5, wr := W5 })
  obtain ⟨c21, k21⟩ := wakesJ_spec hJ { h := H5, wr := W5 }
  rw [← zE, ← hZ, hsw.opn, hsw.bn, ho, if_pos rfl, if_pos rfl, ← hA, ← hB] at k16
  rw [← zE, ← hZ, hsw.opn, hsw.ask, ho] at k19
  rw [show divC d (listV d.a0) (listV d.a1) (listV d.n0) (listV d.n1) (pairV d.pairs) (pairV d.proxies) = copyC d from rfl, ← hX, ho] at k15 k18
  rw [if_pos rfl, if_pos rfl, ← hA, ← hB] at k15
  rw [show askR d = slI (askL d) from if_pos ho] at k18 k19
  rw [decide_eq_true rfl] at k20
  rw [← hX] at k13 k14 k17
  rw [← hD] at k13 k14 k17
  simp only [nmR] at k15 k16
  obtain ⟨AS, hAS⟩ : ∃ AS, AS = slI (askL d) := ⟨_, rfl⟩
  rw [← hAS] at k18 k19 k20
  refine CallR.eval (m1 := { h := H5, wr := W5 }) hx hkp hpr rfl ⟨c1 + c2 + c3 + c4 + c5 + c6 + c7 + c8 + c9 + c10 + c11 + c12 + c13 + c14 + c15 + c16 + c17 + c18 + c19 + c20 + c21, fun k hk => ?_⟩ (by simp) (by simp)
  subst hH2 hW2 hH3 hW3 hH4 hW4 hH5 hW5
  cases aye with
  | true =>
    obtain ⟨X2, hX2⟩ : ∃ X2, X2 = divC { d with a0 := d.a1 } (listV d.a1) (listV d.a1) (listV d.n0) (listV d.n1) (pairV d.pairs) (pairV d.proxies) := ⟨_, rfl⟩
    have lX2 : X2.length = 11 := by rw [hX2]; rfl
    have v1 : List.take 1 (List.drop 2 (rs X)) = [.r (.sl I1 d.a1.length b1)] := by rw [← hL1, hX]; rfl
    have v2 : List.take 1 (rs X).tail = [.r (.sl I0 d.a0.length b0)] := by rw [← hL0, hX]; rfl
    have p1 : List.take 1 (rs X) ++ .r (.sl I1 d.a1.length b1) :: List.drop 2 (rs X) = rs X2 := by rw [← hL1, hX, hX2]; rfl
    have p2 : List.take 2 (rs X2) ++ .r (.sl I0 d.a0.length b0) :: List.drop 3 (rs X2) = rs Z := by rw [← hL0, hX2, hZ]; rfl
    rcases hfv with hF | hF
    · rw [hF] at k7 k8 k9
      rw [if_pos rfl] at k7 k8
      have hoa : openI (agrD d) = 0 := by rw [agr_open]; exact hF
      rw [agr_ask hoa] at k9
      have hal := hal hoa
      obtain ⟨S, hS⟩ : ∃ S : List Int, S = alS (agrD d) := ⟨_, rfl⟩
      rw [← hS] at k8 hal
      simp [slI, gsV, ints] at k7 k9
      simp [cj_fz, a_law07_TallyAlike, rs_len, hd11, hDt, k1 k (by omega), k2 k (by omega), k4 k (by omega), dn_drawF, denF, denFI, stepF, slotFree, slotOf, foot, avIdx, wrAll, pairsOk, apartL, r1, r1', r3, k5 k (by omega), k6 k (by omega), lX, lX1, lX2, lY, lZ, tX, tY, tZ, s1, s2, k7 k (by omega), k8 k (by omega), k9 k (by omega), hal, hls, l0, k11 k (by omega), mkAgg, allR, AV.toR, allR_rs, k13 k (by omega), v1, v2, p1, p2, k14 k (by omega), k15 k (by omega), k16 k (by omega), k17 k (by omega), k18 k (by omega), k19 k (by omega), k20 k (by omega), k21 k (by omega), rvEqs, rvEq]
    · rw [hF] at k7
      rw [hcl9 hF] at k10
      simp at k10
      simp at k7
      simp [cj_fz, a_law07_TallyAlike, rs_len, hd11, hDt, k1 k (by omega), k2 k (by omega), k4 k (by omega), dn_drawF, denF, denFI, stepF, slotFree, slotOf, foot, avIdx, wrAll, pairsOk, apartL, r1, r1', r3, k5 k (by omega), k6 k (by omega), lX, lX1, lX2, lY, lZ, tX, tY, tZ, s1, s2, k7 k (by omega), k10 k (by omega), hls, l0, k11 k (by omega), mkAgg, allR, AV.toR, allR_rs, k13 k (by omega), v1, v2, p1, p2, k14 k (by omega), k15 k (by omega), k16 k (by omega), k17 k (by omega), k18 k (by omega), k19 k (by omega), k20 k (by omega), k21 k (by omega), rvEqs, rvEq]
  | false =>
    obtain ⟨X2, hX2⟩ : ∃ X2, X2 = divC { d with n0 := d.n1 } (listV d.a0) (listV d.a1) (listV d.n1) (listV d.n1) (pairV d.pairs) (pairV d.proxies) := ⟨_, rfl⟩
    have lX2 : X2.length = 11 := by rw [hX2]; rfl
    have v1 : List.take 1 (List.drop 4 (rs X)) = [.r (.sl I3 d.n1.length b3)] := by rw [← hL3, hX]; rfl
    have v2 : List.take 1 (List.drop 3 (rs X)) = [.r (.sl I2 d.n0.length b2)] := by rw [← hL2, hX]; rfl
    have p1 : List.take 3 (rs X) ++ .r (.sl I3 d.n1.length b3) :: List.drop 4 (rs X) = rs X2 := by rw [← hL3, hX, hX2]; rfl
    have p2 : List.take 4 (rs X2) ++ .r (.sl I2 d.n0.length b2) :: List.drop 5 (rs X2) = rs Z := by rw [← hL2, hX2, hZ]; rfl
    rcases hfv with hF | hF
    · rw [hF] at k7 k8 k9
      rw [if_pos rfl] at k7 k8
      have hoa : openI (agrD d) = 0 := by rw [agr_open]; exact hF
      rw [agr_ask hoa] at k9
      have hal := hal hoa
      obtain ⟨S, hS⟩ : ∃ S : List Int, S = alS (agrD d) := ⟨_, rfl⟩
      rw [← hS] at k8 hal
      simp [slI, gsV, ints] at k7 k9
      simp [cj_fz, a_law07_TallyAlike, rs_len, hd11, hDt, k1 k (by omega), k2 k (by omega), k4 k (by omega), dn_drawF, denF, denFI, stepF, slotFree, slotOf, foot, avIdx, wrAll, pairsOk, apartL, r1, r1', r3, k5 k (by omega), k6 k (by omega), lX, lX1, lX2, lY, lZ, tX, tY, tZ, s1, s2, k7 k (by omega), k8 k (by omega), k9 k (by omega), hal, hls, l0, k11 k (by omega), mkAgg, allR, AV.toR, allR_rs, k13 k (by omega), v1, v2, p1, p2, k14 k (by omega), k15 k (by omega), k16 k (by omega), k17 k (by omega), k18 k (by omega), k19 k (by omega), k20 k (by omega), k21 k (by omega), rvEqs, rvEq]
    · rw [hF] at k7
      rw [hcl9 hF] at k10
      simp at k10
      simp at k7
      simp [cj_fz, a_law07_TallyAlike, rs_len, hd11, hDt, k1 k (by omega), k2 k (by omega), k4 k (by omega), dn_drawF, denF, denFI, stepF, slotFree, slotOf, foot, avIdx, wrAll, pairsOk, apartL, r1, r1', r3, k5 k (by omega), k6 k (by omega), lX, lX1, lX2, lY, lZ, tX, tY, tZ, s1, s2, k7 k (by omega), k10 k (by omega), hls, l0, k11 k (by omega), mkAgg, allR, AV.toR, allR_rs, k13 k (by omega), v1, v2, p1, p2, k14 k (by omega), k15 k (by omega), k16 k (by omega), k17 k (by omega), k18 k (by omega), k19 k (by omega), k20 k (by omega), k21 k (by omega), rvEqs, rvEq]
theorem TallyAlike_spec (hs : DivS d a0 a1 n0 n1 p q) (hb : Small d) (hru : 0 ≤ d.rule ∧ d.rule ≤ 255) (aye : Bool) :
    CallR (CJ 10) (fnv fn_law07_TallyAlike) [.r (.agg (divC d a0 a1 n0 n1 p q)), bo aye] { h := [] } (.ret (bo true) { h := [] }) := alikeJ_spec hs hb hru aye (Nat.le_refl _)
end
end Go.AM.T
