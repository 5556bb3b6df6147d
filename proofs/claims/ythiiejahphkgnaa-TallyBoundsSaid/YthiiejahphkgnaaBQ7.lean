/- The machine that the proofs walk by, and what the functions compute: part 7 of the common texts. No condition. (Own work.) -/
import Derived.Test.YthiiejahphkgnaaBQ6
set_option linter.unusedVariables false
set_option linter.unusedSimpArgs false
/- What the functions compute (own work). -/
namespace Go.AM.T
open Go Go.AM
attribute [local simp] so_mov so_pick so_alloc so_box so_build so_slit so_load so_store so_nilc so_bin so_beq so_eqs so_eqn so_eqnl so_not so_conv so_s2b so_mkfn so_slcA so_padd so_fld so_idxA so_idxV so_idxT so_look so_mupd so_mkmap so_mksl so_ext so_app so_lenT so_lenM so_min so_max so_cpy so_clr so_mkif so_tass so_lenS so_idxS so_slc
attribute [local simp] dn_skip dn_label dn_ret dn_exit dn_scope dn_keep dn_reg dn_draw0 noSlots denE denEI stepE  sd_mov sd_pick sd_build sd_load sd_store sd_nilc sd_bin sd_beq sd_eqs sd_eqn sd_eqnl sd_not sd_conv sd_s2b sd_mkfn sd_slc sd_slcA sd_padd sd_fld sd_idxS sd_idxA sd_idxV sd_idxT sd_look sd_mupd sd_ext sd_app sd_lenS sd_lenT sd_lenM sd_min sd_max sd_mkif sd_tass sd_call sd_slit dn_seq dn_cond dn_block dn_loop kn_call denIs denI denOp wants ev eget putD binL enumFrom AV.bool? AV.int? ekeep evs evp runV fin runDefs resAll resOf tupOf unit AV.cells okV ok1 Value.oneCell' fill setN rcells rs_nil rs_cons load_own load_cons mkAgg_rs storeN jmpOut
attribute [local simp] dvL dv1t dvAt mkAgg2 dv0 dv1 dv2 dv3 dv4 dv5 dv6 dv7 dv8 dv9 dv10 dvA dvN dvAll C_fz fzr
def VOs (s : List Int) : Prop := s.Nodup ∧ ∀ x ∈ s, x = 0 ∨ x = 1 ∨ x = 2
theorem nodup_le {s m : List Int} (hs : s.Nodup) (h : ∀ x ∈ s, x ∈ m) : s.length ≤ m.length := by
  induction s generalizing m with
  | nil => simp
  | cons a s ih =>
    have ha := h a (by simp)
    rw [List.nodup_cons] at hs
    have h1 := ih (m := m.erase a) hs.2 fun x hx => by
      rw [List.mem_erase_of_ne (by rintro rfl; exact hs.1 hx)]
      exact h x (by simp [hx])
    have h2 := List.length_erase_of_mem ha
    have h3 := List.length_pos_of_mem ha
    simp only [List.length_cons]; omega
theorem VOs.le {s : List Int} (h : VOs s) : s.length ≤ 3 := nodup_le (m := [0, 1, 2]) h.1 fun x hx => by simpa using h.2 x hx
theorem outcome_v (d : Div) (n : Int × Int) : outcomeI d n = 0 ∨ outcomeI d n = 1 ∨ outcomeI d n = 2 := by
  unfold outcomeI
  split
  · exact .inr (.inr rfl)
  · split
    · exact .inr (.inl rfl)
    · exact .inl rfl
theorem alStep_ok {d : Div} {s t : List Int} (h : VOs s) : VOs (alStep d s t).1 := by
  unfold alStep
  split
  · exact h
  · rename_i hc
    have hc : outcomeI d (numsL d t) ∉ s := by simpa using hc
    refine ⟨?_, fun x hx => ?_⟩
    · show (s ++ [outcomeI d (numsL d t)]).Nodup
      rw [List.nodup_append]
      refine ⟨h.1, by simp, fun a ha b hb => ?_⟩
      simp at hb
      subst hb
      rintro rfl
      exact hc ha
    · rcases List.mem_append.1 hx with hx | hx
      · exact h.2 x hx
      · simp at hx; subst hx; exact outcome_v _ _
/-- The outcomes of some truths. -/
theorem alF_ok {d : Div} : ∀ (l : List (List Int)) (s : List Int), VOs s → VOs (foldS (alStep d) s l).1
  | [], s, h => h
  | t :: l, s, h => by
    rw [foldS_cons, if_pos (alStep_2 d s t)]
    exact alF_ok l _ (alStep_ok h)
theorem alF_mem {d : Div} : ∀ (l : List (List Int)) (s : List Int) (o : Int), o ∈ (foldS (alStep d) s l).1 ↔ o ∈ s ∨ ∃ t ∈ l, outcomeI d (numsL d t) = o
  | [], s, o => by simp [foldS]
  | t :: l, s, o => by
    rw [foldS_cons, if_pos (alStep_2 d s t), alF_mem l]
    have : o ∈ (alStep d s t).1 ↔ o ∈ s ∨ outcomeI d (numsL d t) = o := by
      unfold alStep
      split
      · rename_i hc
        have hc : outcomeI d (numsL d t) ∈ s := by simpa using hc
        constructor
        · exact fun h => .inl h
        · rintro (h | rfl)
          · exact h
          · exact hc
      · rw [List.mem_append, List.mem_singleton, eq_comm (a := o)]
    rw [this]
    simp only [List.mem_cons, exists_eq_or_imp, or_assoc]
def alL (d : Div) : List Int := (foldS (alStep d) [] (truthsOf d)).1
theorem alL_ok (d : Div) : VOs (alL d) := alF_ok _ _ ⟨by simp, by simp⟩
theorem alL_mem {d : Div} {o : Int} : o ∈ alL d ↔ ∃ t ∈ truthsOf d, outcomeI d (numsL d t) = o := by unfold alL; rw [alF_mem]; simp
/-- The outcomes that the lists allow. -/
def alS (d : Div) : List Int := [0, 1, 2].filter fun o => (alL d).contains o
theorem insL_ok {s : List Int} (h : VOs s) : insL s = [0, 1, 2].filter fun o => s.contains o := by
  have hl := h.le
  have hv := h.2
  have hn := h.1
  match s, hl, hv, hn with
  | [], _, _, _ => rfl
  | [a], _, hv, _ => rcases hv a (by simp) with rfl | rfl | rfl <;> rfl
  | [a, b], _, hv, hn =>
    rcases hv a (by simp) with rfl | rfl | rfl <;> rcases hv b (by simp) with rfl | rfl | rfl <;> first | rfl | (exfalso; simp at hn)
  | [a, b, c], _, hv, hn =>
    rcases hv a (by simp) with rfl | rfl | rfl <;> rcases hv b (by simp) with rfl | rfl | rfl <;> rcases hv c (by simp) with rfl | rfl | rfl <;> first | rfl | (exfalso; simp at hn)
  | a :: b :: c :: e :: r, hl, _, _ => simp at hl
theorem truthsOf_ne {d : Div} (ho : openI d = 0) : truthsOf d ≠ [] := by
  obtain ⟨hr, hcl, hd⟩ := openI0 ho
  have hn := right_n hr
  rw [truthsOf_rt hn.2]
  have hne : ∀ k : Nat, (k : Int) < d.n → may d k ≠ [] := fun k hk e => by
    have : bothB d k = true := by rw [← may_nil]; simp [e]
    unfold clashB at hcl
    rw [List.find?_eq_none] at hcl
    exact hcl k (by simp; omega) this
  have := rtF_ne (d := d) d.n.toNat [] fun k hk => hne k (by simp at hk; omega)
  unfold rtOf
  simpa using this
theorem truthsOf_count {d : Div} (ho : openI d = 0) : (truthsOf d).length ≤ 6561 := by
  obtain ⟨hr, hcl, hd⟩ := openI0 ho
  rw [truthsOf_rt (right_n hr).2, List.length_map]
  exact rtOf_count hd
theorem alL_ne {d : Div} (ho : openI d = 0) : alL d ≠ [] := by
  obtain ⟨t, ht⟩ := List.exists_mem_of_ne_nil _ (truthsOf_ne ho)
  have : outcomeI d (numsL d t) ∈ alL d := alL_mem.2 ⟨t, ht, rfl⟩
  intro e; rw [e] at this; cases this
theorem alS_len {d : Div} : (alS d).length = (alL d).length := by
  unfold alS
  rw [← insL_ok (alL_ok d)]
  unfold insL
  rw [insF_len]
section
variable {d : Div} {a0 a1 n0 n1 p q : RV}
theorem Allowed_spec (hs : DivS d a0 a1 n0 n1 p q) (hb : Small d) (hru : 0 ≤ d.rule ∧ d.rule ≤ 255) (m : Mem) : CallR C (fnv fn_tally_Allowed) [.r (.agg (divC d a0 a1 n0 n1 p q))] m
    (.ret (.tup [.r (if openI d = 0 then .sl (ints .u8 (alS d)) (alS d).length none else .nil), i64 (openI d)]) m) := by
  obtain ⟨R, hRR⟩ : ∃ R, R = (if openI d = 0 then lookC d (divC d a0 a1 n0 n1 p q) else z_tally_looked) := ⟨_, rfl⟩
  have lR : R.length = 91 := by rw [hRR]; split <;> rfl
  have hRt : List.take 91 (rs R) = rs R := List.take_of_length_le (by rw [rs_len]; omega)
  obtain ⟨Z, hZ⟩ : ∃ Z, Z = z_tally_looked := ⟨_, rfl⟩
  have hZl : Z.length = 91 := by rw [hZ]; rfl
  have hZd : List.drop 91 (rs Z) = [] := List.drop_eq_nil_of_le (by rw [rs_len]; omega)
  have hd11 : (divC d a0 a1 n0 n1 p q).length = 11 := rfl
  obtain ⟨D, hD⟩ : ∃ D, D = divC d a0 a1 n0 n1 p q := ⟨_, rfl⟩
  obtain ⟨c1, k1⟩ := topen_spec hs hb hru { h := m.h ++ [.cells (rs (divC d a0 a1 n0 n1 p q)) ty_tally_Division 0] }
  rw [← hRR] at k1
  by_cases e : openI d = 0
  · rw [if_pos e] at hRR
    rw [e] at k1
    rw [if_pos e, e]
    obtain ⟨hr, -, -⟩ := openI0 e
    have hn := right_n hr
    have hok := al_ok hs hr hru.1 m (D := D) hRR
    obtain ⟨H', W', v, ⟨c2, k2⟩, htk, hG, hw⟩ := Lp.range hok (by show 7 ≠ 19; omega) hn (R := R) (fun m => by rw [hRR]; exact lookC_p0 m) (fun m k h1 h2 => by rw [hRR]; exact lookC_pm m k h1 h2) (q := 18) rfl [] rfl (by show 0 + (truthsOf d).length ≤ 10000; have := truthsOf_count e; omega) rfl rfl [m.h.length + 1]
    have hF : (foldS (lpA d m.h.length D R).step [] (truthsOf d)).1 = alL d := rfl
    rw [hF] at htk hG k2
    have k2 : ∀ k, c2 ≤ k → den (Kn C k) (.rangeF (.t 18) [19] s_tally_Allowed_0 b_tally_Allowed_0) { env := [(2, .r .nil), (3, i64 0), (4, .own (m.h.length + 1) 0 0), (6, .own (m.h.length + 2) 0 0), (18, .r (.fn fn_tally_looked_truths_1 [] [.ptr R]))], m := { h := m.h ++ [.cells (rs D) ty_tally_Division 0, .cells (rs R) ty_tally_looked 0, .cells [.r .nil] ty_Suint8 0], wr := [m.h.length + 1] } } = some (.norm, { env := [(2, .r .nil), (3, i64 0), (4, .own (m.h.length + 1) 0 0), (6, .own (m.h.length + 2) 0 0), (18, .r (.fn fn_tally_looked_truths_1 [] [.ptr R]))], m := { h := H', wr := W' }, defs := [.dfr (m.h.length + 3)] }) := k2
    have htk : H'.take (m.h.length + 5) = m.h ++ [.cells (rs D) ty_tally_Division 0, .cells (rs R) ty_tally_looked 0, .cells [v] ty_Suint8 0] ++ [.dfr, .dead] := htk
    have hG : GS H' (m.h.length + 5) ty_uint8 1 (ints .u8 (alL d)) (alL d).length v := hG
    have g2 : H'[m.h.length + 2]? = some (.cells [v] ty_Suint8 0) := by rw [take_get htk (by omega), List.append_assoc, get_midk]; rfl
    have g3 : H'[m.h.length + 3]? = some .dfr := by rw [take_get htk (by omega), List.append_assoc, get_midk]; rfl
    have ht : H'.take m.h.length = m.h := by
      have := congrArg (List.take m.h.length) htk
      rw [List.take_take, Nat.min_eq_left (by omega), List.append_assoc, List.take_left'] at this
      · exact this
      · rfl
    have hal := alL_ok d
    have hle := hal.le
    cases hG with
    | nil e1 e2 => exact absurd (List.length_eq_zero_iff.1 e1) (alL_ne e)
    | osl B g h1 h2 h3 h4 =>
      have hBl := getElem?_lt h2
      obtain ⟨W2, ⟨c3, k3⟩, hw2⟩ := Sort_spec (l := alL d) ⟨h3, hle⟩ h2 W'
      obtain ⟨c4, k4⟩ := truths_spec lR { h := m.h ++ [.cells (rs D) ty_tally_Division 0, .cells (rs R) ty_tally_looked 0, .cells [.r .nil] ty_Suint8 0], wr := [m.h.length + 1] }
      rw [insL_ok hal] at k3
      rw [show List.filter (fun o => (alL d).contains o) [0, 1, 2] = alS d from rfl] at k3
      obtain ⟨I, hI⟩ : ∃ I, I = ints .u8 (alS d) := ⟨_, rfl⟩
      obtain ⟨n, hnn⟩ : ∃ n, n = (alL d).length := ⟨_, rfl⟩
      have hIl : I.length = n := by rw [hI, ints_len, alS_len, hnn]
      rw [alS_len, ← hI, ← hnn]
      rw [← hI, ← hnn] at k3
      rw [← hnn] at g2 h3 hle
      obtain ⟨H3, hH3⟩ : ∃ H3, H3 = H'.set B (.cells (rs I) ty_uint8 g) := ⟨_, rfl⟩
      rw [← hH3] at k3
      have g33 : H3[m.h.length + 3]? = some .dfr := by rw [hH3, List.getElem?_set_ne (by omega)]; exact g3
      have g32 : H3[m.h.length + 2]? = some (.cells [.osl B g 0 n 1 none] ty_Suint8 0) := by rw [hH3, List.getElem?_set_ne (by omega)]; exact g2
      obtain ⟨H4, hH4⟩ : ∃ H4, H4 = H3.set (m.h.length + 3) .dead := ⟨_, rfl⟩
      have g4 : H4[B]? = some (.cells (rs I) ty_uint8 g) := by rw [hH4, List.getElem?_set_ne (by omega), hH3, List.getElem?_set_self hBl]
      have hz : ∀ W, fz { h := H4, wr := W } m.h.length 999998 (.osl B g 0 n 1 none) = some (.r (.sl I n none)) := fun W => fz_osl (t := ty_uint8) g4 (by omega) (by omega) (by omega)
      have hzt : ∀ W, fz { h := H4, wr := W } m.h.length 1000000 (.tup [.osl B g 0 n 1 none, i64 0]) = some (.tup [.r (.sl I n none), i64 0]) := fun W => fz_tup (k := 999999) (fzs_one (k := 999998) (hz W) (fzs_one (k := 999997) rfl rfl))
      refine CallR.eval (m1 := { h := H4, wr := (m.h.length + 3) :: W2 }) rfl rfl prog_tally_Allowed rfl ⟨c1 + c2 + c3 + c4, fun k hk => ?_⟩ (by rw [hH4, List.take_set_of_le (by omega), hH3, List.take_set_of_le (by omega)]; exact ht) (by
        intro x hx
        rcases List.mem_cons.1 hx with rfl | hx
        · omega
        · rcases hw2 x hx with h | rfl
          · rcases hw x h with h | h
            · simp at h; omega
            · exact h
          · omega)
      rw [← hD] at k1 hd11 ⊢
      have hDt : List.take 11 (rs D) = rs D := List.take_of_length_le (by rw [rs_len]; omega)
      simp [a_tally_Allowed, ← hZ, hd11, hDt, rs_len, hZl, hZd, lR, hRt, k1 k (by omega), k4 k (by omega), k2 k (by omega), k3 k (by omega), g2, g32, g33, ← hH4, hzt]
  · rw [if_neg e]
    have e' : (openI d == 0) = false := by simpa using e
    refine CallR.eval (m1 := { h := m.h ++ [.cells (rs (divC d a0 a1 n0 n1 p q)) ty_tally_Division 0, .cells (rs R) ty_tally_looked 0], wr := [m.h.length + 1] }) rfl rfl prog_tally_Allowed rfl ⟨c1, fun k hk => ?_⟩ (by simp) (by simp)
    simp [a_tally_Allowed, ← hZ, hd11, rs_len, hZl, hZd, lR, hRt, k1 k (by omega), e', e, fz, fzs]
end
end Go.AM.T
/- What the functions compute (own work). -/
namespace Go.AM.T
open Go Go.AM
attribute [local simp] so_mov so_pick so_alloc so_box so_build so_slit so_load so_store so_nilc so_bin so_beq so_eqs so_eqn so_eqnl so_not so_conv so_s2b so_mkfn so_slcA so_padd so_fld so_idxA so_idxV so_idxT so_look so_mupd so_mkmap so_mksl so_ext so_app so_lenT so_lenM so_min so_max so_cpy so_clr so_mkif so_tass so_lenS so_idxS so_slc
attribute [local simp] dn_skip dn_label dn_ret dn_exit dn_scope dn_keep dn_reg dn_draw0 noSlots denE denEI stepE  sd_mov sd_pick sd_build sd_load sd_store sd_nilc sd_bin sd_beq sd_eqs sd_eqn sd_eqnl sd_not sd_conv sd_s2b sd_mkfn sd_slc sd_slcA sd_padd sd_fld sd_idxS sd_idxA sd_idxV sd_idxT sd_look sd_mupd sd_ext sd_app sd_lenS sd_lenT sd_lenM sd_min sd_max sd_mkif sd_tass sd_call sd_slit dn_seq dn_cond dn_block dn_loop kn_call denIs denI denOp wants ev eget putD binL enumFrom AV.bool? AV.int? ekeep evs evp runV fin runDefs resAll resOf tupOf unit AV.cells okV ok1 Value.oneCell' fill setN rcells rs_nil rs_cons load_own load_cons mkAgg_rs storeN jmpOut
attribute [local simp] dvL dv1t dvAt mkAgg2 dv0 dv1 dv2 dv3 dv4 dv5 dv6 dv7 dv8 dv9 dv10 dvA dvN dvAll C_fz fzr
/-- A truth with its outcome: the cells; all of them. -/
def toldC (d : Div) (t : List Int) : List RV := ints .u8 (t ++ [outcomeI d (numsL d t)])
def toldsC (d : Div) (l : List (List Int)) : List RV := l.flatMap (toldC d)
theorem toldC_len (d : Div) {t : List Int} (h : t.length = 40) : (toldC d t).length = 41 := by unfold toldC; rw [ints_len]; simp [h]
theorem toldsC_len (d : Div) : ∀ {l : List (List Int)}, (∀ t ∈ l, t.length = 40) → (toldsC d l).length = l.length * 41
  | [], _ => rfl
  | t :: l, h => by
    have h1 := toldsC_len d (l := l) fun x hx => h x (by simp [hx])
    have h2 := toldC_len d (h t (by simp))
    unfold toldsC at h1 ⊢
    rw [List.flatMap_cons, List.length_append, h1, h2, List.length_cons, Nat.add_mul]; omega
def lpT (d : Div) (L : Nat) (R : List RV) : Lp (List (List Int)) where
  E := [(1, .own L 0 0), (2, .own (L + 1) 0 0), (5, .r (.fn fn_tally_looked_truths_1 [] [.ptr R]))]
  pt := 6
  tt := 3
  bd := b_tally_looked_all_0
  k := 2
  P := fun _ v => [.cells (rs R) ty_tally_looked 0, .cells [v] ty_Stally_told 0]
  T := ty_tally_told
  sz := 41
  cs := toldsC d
  nn := List.length
  jb := 1
  Tb := ty_Stally_told
  alive := fun _ => true
  rank := List.length
  N := 10000
  step := fun s t => (s ++ [t], true)
section
variable {d : Div} {a0 a1 n0 n1 p q : RV}
theorem told_ok (hs : DivS d a0 a1 n0 n1 p q) (hr : rightB d = true) (h0 : 0 ≤ d.rule) (m : Mem) {R : List RV} (hR : R = lookC d (divC d a0 a1 n0 n1 p q)) : (lpT d m.h.length R).Ok m where
  len := fun _ _ => rfl
  al := fun s t => rfl
  rk := fun s t => by simp [lpT]
  jb := by show 1 < 2; omega
  body := by
    intro s v t Hb W X _ hrk ht htk hG hX1 hX2 hT
    have hrk : s.length < 10000 := hrk
    have htk : Hb.take (m.h.length + 4) = (lpT d m.h.length R).low m s v .busy none := htk
    have hG : GS Hb (m.h.length + 4) ty_tally_told 41 (toldsC d s) s.length v := hG
    have lR : R.length = 91 := by rw [hR]; exact lookC_len
    have tR : List.take 91 (rs R) = rs R := List.take_of_length_le (by rw [rs_len]; omega)
    have l40 : (ints .u8 t).length = 40 := by rw [ints_len]; exact ht.1
    have t40 : List.take 40 (rs (ints .u8 t)) = rs (ints .u8 t) := List.take_of_length_le (by rw [rs_len]; omega)
    have gX : Hb[m.h.length]? = some (.cells (rs R) ty_tally_looked 0) := by have := pre_get (k := 0) htk (by omega) rfl; simpa using this
    have gV : Hb[m.h.length + 1]? = some (.cells [v] ty_Stally_told 0) := pre_get htk (by omega) rfl
    have hlen : m.h.length + 4 ≤ Hb.length := by
      have := congrArg List.length htk
      rw [List.length_take] at this
      have h2 : ((lpT d m.h.length R).low m s v .busy none).length = m.h.length + 4 := by simp [Lp.low, lpT]
      omega
    have hnl := nums_le hr t
    obtain ⟨c1, k1⟩ := numbers_spec hs hr ht.1 { h := Hb }
    obtain ⟨c2, k2⟩ := outcome_spec (a0 := a0) (a1 := a1) (n0 := n0) (n1 := n1) (p := p) (q := q) hr h0 (numsL d t) hnl.1 hnl.2 { h := Hb }
    rw [← hR] at k1 k2
    have hC := toldC_len d ht.1
    have hCs : rs (toldC d t) = rs (ints .u8 t) ++ [u8 (outcomeI d (numsL d t))] := by unfold toldC; simp [ints, rs]
    obtain ⟨Cc, hCc⟩ : ∃ Cc, Cc = toldC d t := ⟨_, rfl⟩
    obtain ⟨o, ho⟩ : ∃ o, o = outcomeI d (numsL d t) := ⟨_, rfl⟩
    obtain ⟨n, hn⟩ : ∃ n, n = numsL d t := ⟨_, rfl⟩
    obtain ⟨I, hI⟩ : ∃ I, I = ints .u8 t := ⟨_, rfl⟩
    have hsC : (lpT d m.h.length R).cs ((lpT d m.h.length R).step s t).1 = toldsC d s ++ Cc := by
      show toldsC d (s ++ [t]) = _
      unfold toldsC
      rw [List.flatMap_append, hCc]; simp
    rw [← ho] at k2 hCs
    rw [← hn] at k1 k2
    rw [← hI] at k1 hT l40 t40 hCs ⊢
    rw [← hCc] at hC hCs
    simp only [nmR] at k2
    obtain ⟨B, g, H', W', hA, hB, hG2, hfr, hBx, hl2, hkt, hW'⟩ := hG.app2 (new := Cc) (k := 1) [] 41 (some 1) hlen (by omega) (by omega) ⟨by omega, by omega⟩
    have gV' : H'[m.h.length + 1]? = some (.cells [v] ty_Stally_told 0) := by rw [take_get hkt (by omega), List.getElem?_take_of_lt (by omega)]; exact gV
    obtain ⟨H2, hH2⟩ : ∃ H2, H2 = H'.set (m.h.length + 1) (.cells [.osl B g 0 (s.length + 1) 41 none] ty_Stally_told 0) := ⟨_, rfl⟩
    have hwa : apartL (wrAll Hb.length { h := H', wr := W' }) [] = true := by unfold apartL; simp
    have hmk1 : mkAgg (rs I ++ [u8 o]) = .r (.agg Cc) := by rw [← hCs, mkAgg_rs]
    have hZl : (rs z_tally_told).length = 41 := by rw [rs_len]; rfl
    have hf1 : fill (rs z_tally_told) [(0, 40, .r (.agg I)), (40, 1, u8 o)] = some (rs Cc) := by
      have h1 : (rs I).length = 40 := by rw [rs_len]; exact l40
      have h2 : List.drop 40 (rs z_tally_told) = [.r (.lit (.int .u8 0))] := by rfl
      simp [fill, h1, hZl, setN, hCs, l40, rs_len, h2, List.take_of_length_le, List.take_append_of_le_length]
    have hf2 : fill (rs (repl z_tally_told 1)) [(0, 41, .r (.agg Cc))] = some (rs Cc) := by
      have h1 : (rs (repl z_tally_told 1)).length = 41 := by rw [rs_len]; rfl
      have h2 : List.drop 41 (rs (repl z_tally_told 1)) = [] := List.drop_eq_nil_of_le (by omega)
      simp [fill, h1, setN, rs_len, hC, h2]
    have hs2 : ∃ s2, Den C (lpT d m.h.length R).bd { env := ((lpT d m.h.length R).tt, .own X 0 0) :: ((lpT d m.h.length R).pt, .r (.agg I)) :: (lpT d m.h.length R).E, m := { h := Hb, wr := W }, round := some (m.h.length + 2 + 1) } .norm s2 ∧ s2.m.h = H2 ∧ s2.m.wr = (m.h.length + 1) :: (W' ++ W) := by
      refine ⟨_, .ofN ⟨c1 + c2, fun k hk => by
        simp [lpT, b_tally_looked_all_0, -fill, dn_drawF, denF, denFI, stepF, slotFree, slotOf, foot, avIdx, pairsOk, apartL_nil, wrAll_self, gX, gV, hT, rs_len, lR, tR, l40, t40, k1 k (by omega), k2 k (by omega), hf1, hf2, allR_rs, hC, hA, gV', ← hH2, hwa]
        rfl⟩, rfl, rfl⟩
    obtain ⟨s2, k4, m4, w4⟩ := hs2
    refine ⟨s2, .norm, .osl B g 0 (s.length + 1) 41 none, k4, .inl ⟨rfl, rfl⟩, ?_, ?_, ?_, ?_, ?_, ?_, .inr ⟨by rw [w4]; simp [lpT], rfl⟩⟩
    · rw [m4]
      show H2.take (m.h.length + 4) = _
      rw [hH2, List.take_set, hkt, htk]
      unfold Lp.low
      rw [List.append_assoc, List.append_assoc, set_mid]; rfl
    · rw [m4, hsC]
      show GS H2 (m.h.length + 4) ty_tally_told 41 (toldsC d s ++ Cc) (s ++ [t]).length _
      rw [show (s ++ [t]).length = s.length + 1 by simp]
      exact hG2.same fun j hj => by
        have := (hG2.idx j hj).1
        rw [hH2, List.getElem?_set_ne (by omega)]
    · intro j h1 h2 h3
      have h1 : m.h.length + 4 ≤ j := h1
      rw [m4, hH2, List.getElem?_set_ne (by omega)]
      exact hfr j h2 h3
    · rw [m4, hH2, List.length_set]; exact hl2
    · intro x hx
      rw [w4] at hx
      rcases List.mem_cons.1 hx with rfl | hx
      · exact .inr (by omega)
      · rcases List.mem_append.1 hx with hx | hx
        · rcases hW' x hx with h | h
          · cases h
          · exact .inr (by omega)
        · exact .inl hx
    · intro j hj
      simp [avIdx] at hj
      subst hj
      rcases hBx with h | h
      · exact .inl h
      · exact .inr (by omega)
theorem told_fold (d : Div) : ∀ (l s : List (List Int)), (foldS (fun (s : List (List Int)) t => (s ++ [t], true)) s l).1 = s ++ l
  | [], s => by simp [foldS]
  | t :: l, s => by
    rw [foldS_cons]
    simp only [if_true]
    rw [told_fold d l]; simp
theorem truthsOf_len {d : Div} (h : d.n ≤ 40) : ∀ t ∈ truthsOf d, t.length = 40 := by
  rw [truthsOf_rt h]
  intro t ht
  obtain ⟨u, hu, rfl⟩ := List.mem_map.1 ht
  have := rtF_len _ _ _ hu
  unfold pad
  simp at this ⊢; omega
/-- All truths with their outcomes. -/
def allV (d : Div) : RV := .sl (toldsC d (truthsOf d)) (truthsOf d).length none
theorem all_told_spec (hs : DivS d a0 a1 n0 n1 p q) (hru : 0 ≤ d.rule) (e : openI d = 0) (m : Mem) : CallR C (fnv fn_tally_looked_all) [.r (.agg (lookC d (divC d a0 a1 n0 n1 p q)))] m (.ret (.r (allV d)) m) := by
  obtain ⟨R, hRR⟩ : ∃ R, R = lookC d (divC d a0 a1 n0 n1 p q) := ⟨_, rfl⟩
  have lR : R.length = 91 := by rw [hRR]; exact lookC_len
  have hRt : List.take 91 (rs R) = rs R := List.take_of_length_le (by rw [rs_len]; omega)
  obtain ⟨hr, -, -⟩ := openI0 e
  have hn := right_n hr
  have hok := told_ok hs hr hru m hRR
  obtain ⟨H', W', v, ⟨c2, k2⟩, htk, hG, hw⟩ := Lp.range hok (by show 3 ≠ 6; omega) hn (R := R) (fun m => by rw [hRR]; exact lookC_p0 m) (fun m k h1 h2 => by rw [hRR]; exact lookC_pm m k h1 h2) (q := 5) rfl [] rfl (by show 0 + (truthsOf d).length ≤ 10000; have := truthsOf_count e; omega) rfl rfl []
  have hF : (foldS (lpT d m.h.length R).step [] (truthsOf d)).1 = truthsOf d := told_fold d (truthsOf d) []
  rw [hF] at htk hG k2
  have k2 : ∀ k, c2 ≤ k → den (Kn C k) (.rangeF (.t 5) [6] s_tally_looked_all_0 b_tally_looked_all_0) { env := [(1, .own m.h.length 0 0), (2, .own (m.h.length + 1) 0 0), (5, .r (.fn fn_tally_looked_truths_1 [] [.ptr R]))], m := { h := m.h ++ [.cells (rs R) ty_tally_looked 0, .cells [.r .nil] ty_Stally_told 0], wr := [] } } = some (.norm, { env := [(1, .own m.h.length 0 0), (2, .own (m.h.length + 1) 0 0), (5, .r (.fn fn_tally_looked_truths_1 [] [.ptr R]))], m := { h := H', wr := W' }, defs := [.dfr (m.h.length + 2)] }) := k2
  have htk : H'.take (m.h.length + 4) = m.h ++ [.cells (rs R) ty_tally_looked 0, .cells [v] ty_Stally_told 0] ++ [.dfr, .dead] := htk
  have hG : GS H' (m.h.length + 4) ty_tally_told 41 (toldsC d (truthsOf d)) (truthsOf d).length v := hG
  have hlt : ∀ j, j < 4 → m.h.length + j < H'.length := fun j hj => by
    have := congrArg List.length htk
    rw [List.length_take] at this
    simp at this; omega
  have g1 : H'[m.h.length + 1]? = some (.cells [v] ty_Stally_told 0) := by rw [take_get htk (by omega), List.append_assoc, get_midk]; rfl
  have g2 : H'[m.h.length + 2]? = some .dfr := by rw [take_get htk (by omega), List.append_assoc, get_midk]; rfl
  have ht : H'.take m.h.length = m.h := by
    have := congrArg (List.take m.h.length) htk
    rw [List.take_take, Nat.min_eq_left (by omega), List.append_assoc, List.take_left'] at this
    · exact this
    · rfl
  cases hG with
  | nil e1 e2 => exact absurd (List.length_eq_zero_iff.1 e1) (truthsOf_ne e)
  | osl B g h1 h2 h3 h4 =>
    have hcnt := truthsOf_count e
    obtain ⟨c4, k4⟩ := truths_spec lR { h := m.h ++ [.cells (rs R) ty_tally_looked 0, .cells [.r .nil] ty_Stally_told 0] }
    unfold allV
    obtain ⟨I, hI⟩ : ∃ I, I = toldsC d (truthsOf d) := ⟨_, rfl⟩
    obtain ⟨n, hnn⟩ : ∃ n, n = (truthsOf d).length := ⟨_, rfl⟩
    rw [← hI] at h2 h4 ⊢
    rw [← hnn] at h3 h4 g1 hcnt ⊢
    obtain ⟨H3, hH3⟩ : ∃ H3, H3 = H'.set (m.h.length + 1) (.cells [.osl B g 0 n 41 none] ty_Stally_told 0) := ⟨_, rfl⟩
    have g32 : H3[m.h.length + 2]? = some .dfr := by rw [hH3, List.getElem?_set_ne (by omega)]; exact g2
    obtain ⟨H4, hH4⟩ : ∃ H4, H4 = H3.set (m.h.length + 2) .dead := ⟨_, rfl⟩
    have g41 : H4[m.h.length + 1]? = some (.cells [.osl B g 0 n 41 none] ty_Stally_told 0) := by rw [hH4, List.getElem?_set_ne (by omega), hH3, List.getElem?_set_self (hlt 1 (by omega))]
    have g4 : H4[B]? = some (.cells (rs I) ty_tally_told g) := by rw [hH4, List.getElem?_set_ne (by omega), hH3, List.getElem?_set_ne (by omega)]; exact h2
    have hz : ∀ W, fz { h := H4, wr := W } m.h.length 1000000 (.osl B g 0 n 41 none) = some (.r (.sl I n none)) := fun W => fz_osl (t := ty_tally_told) g4 (by omega) h4 (by omega)
    refine CallR.eval (m1 := { h := H4, wr := (m.h.length + 2) :: (m.h.length + 1) :: W' }) rfl rfl prog_tally_looked_all rfl ⟨c2 + c4, fun k hk => ?_⟩ (by rw [hH4, List.take_set_of_le (by omega), hH3, List.take_set_of_le (by omega)]; exact ht) (by
      intro x hx
      rcases List.mem_cons.1 hx with rfl | hx
      · omega
      · rcases List.mem_cons.1 hx with rfl | hx
        · omega
        · rcases hw x hx with h | h
          · cases h
          · exact h)
    rw [← hRR]
    simp [a_tally_looked_all, rs_len, lR, hRt, k4 k (by omega), k2 k (by omega), g1, ← hH3, g32, ← hH4, g41, hz]
end
end Go.AM.T
/- What the functions compute (own work). -/
namespace Go.AM.T
open Go Go.AM
attribute [local simp] so_mov so_pick so_alloc so_box so_build so_slit so_load so_store so_nilc so_bin so_beq so_eqs so_eqn so_eqnl so_not so_conv so_s2b so_mkfn so_slcA so_padd so_fld so_idxA so_idxV so_idxT so_look so_mupd so_mkmap so_mksl so_ext so_app so_lenT so_lenM so_min so_max so_cpy so_clr so_mkif so_tass so_lenS so_idxS so_slc
attribute [local simp] dn_skip dn_label dn_ret dn_exit dn_scope dn_keep dn_reg dn_draw0 noSlots denE denEI stepE  sd_mov sd_pick sd_build sd_load sd_store sd_nilc sd_bin sd_beq sd_eqs sd_eqn sd_eqnl sd_not sd_conv sd_s2b sd_mkfn sd_slc sd_slcA sd_padd sd_fld sd_idxS sd_idxA sd_idxV sd_idxT sd_look sd_mupd sd_ext sd_app sd_lenS sd_lenT sd_lenM sd_min sd_max sd_mkif sd_tass sd_call sd_slit dn_seq dn_cond dn_block dn_loop kn_call denIs denI denOp wants ev eget putD binL enumFrom AV.bool? AV.int? ekeep evs evp runV fin runDefs resAll resOf tupOf unit AV.cells okV ok1 Value.oneCell' fill setN rcells rs_nil rs_cons load_own load_cons mkAgg_rs storeN jmpOut
attribute [local simp] dvL dv1t dvAt mkAgg2 dv0 dv1 dv2 dv3 dv4 dv5 dv6 dv7 dv8 dv9 dv10 dvA dvN dvAll C_fz fzr
/-- A map whose keys are answers. -/
def mapC (es : List (List Int × Int)) : List (RV × AV) := es.map fun e => (.agg (ints .u8 e.1), u8 e.2)
def lkA (a : List Int) : List (List Int × Int) → Nat → Option (Nat × Int)
  | [], _ => none
  | (b, o) :: es, i => if a = b then some (i, o) else lkA a es (i + 1)
theorem rvEqs_ints : ∀ (n : Nat) (a b : List Int), a.length = n → b.length = n → rvEqs (List.replicate n .i) (ints .u8 a) (ints .u8 b) = some (decide (a = b))
  | 0, [], [], _, _ => rfl
  | n + 1, x :: a, y :: b, ha, hb => by
    have ih := rvEqs_ints n a b (by simpa using ha) (by simpa using hb)
    rw [List.replicate_succ]
    show (match rvEq .i (.lit (.int .u8 x)) (.lit (.int .u8 y)), rvEqs (List.replicate n .i) (ints .u8 a) (ints .u8 b) with | some a, some b => some (a && b) | _, _ => none) = _
    rw [ih]
    simp only [rvEq, if_true]
    by_cases h1 : x = y <;> by_cases h2 : a = b <;> simp [h1, h2]
theorem findK_lk {a : List Int} (ha : a.length = 40) : ∀ (es : List (List Int × Int)) (i : Nat), (∀ e ∈ es, e.1.length = 40) → findK (some 40) (.agg (ints .u8 a)) (mapC es) i = some ((lkA a es i).map fun x => (x.1, u8 x.2))
  | [], i, _ => by
    show (if keyOk (some 40) (.agg (ints .u8 a)) then some none else none) = _
    rw [if_pos (by simp [keyOk, ints_len, ha])]; rfl
  | (b, o) :: es, i, h => by
    have ih := findK_lk ha es (i + 1) fun e he => h e (by simp [he])
    show (match keyEq (some 40) (.agg (ints .u8 a)) (.agg (ints .u8 b)) with | some true => some (some (i, u8 o)) | some false => findK (some 40) (.agg (ints .u8 a)) (mapC es) (i + 1) | none => none) = _
    unfold keyEq
    simp only
    rw [rvEqs_ints 40 a b ha (h (b, o) (by simp))]
    unfold lkA
    by_cases e : a = b
    · simp [e]
    · simp [e, ih]
theorem lkA_set {a : List Int} : ∀ (es : List (List Int × Int)) (i j : Nat) (o : Int), lkA a es i = some (j, o) → ∃ k, j = i + k ∧ es[k]? = some (a, o)
  | [], _, _, _, h => by simp [lkA] at h
  | (b, o') :: es, i, j, o, h => by
    unfold lkA at h
    by_cases e : a = b
    · rw [if_pos e] at h; cases h; exact ⟨0, rfl, by simp [e]⟩
    · rw [if_neg e] at h
      obtain ⟨k, h1, h2⟩ := lkA_set es (i + 1) j o h
      exact ⟨k + 1, by omega, by simpa using h2⟩
theorem mapC_set {a : List Int} {es : List (List Int × Int)} {j : Nat} {o : Int} (h : lkA a es 0 = some (j, o)) : (mapC es).set j (.agg (ints .u8 a), u8 o) = mapC es := by
  obtain ⟨k, h1, h2⟩ := lkA_set es 0 j o h
  have : j = k := by omega
  subst this
  refine set_same ?_
  unfold mapC
  rw [List.getElem?_map, h2]; rfl
/-- What some members answer in a truth. -/
def ansF (t : List Int) : List Int → List Int → List Int
  | [], a => a
  | m :: ms, a => ansF t ms (a.set m.toNat (t.getD m.toNat 0))
theorem ansF_len (t : List Int) : ∀ (ms a : List Int), (ansF t ms a).length = a.length
  | [], _ => rfl
  | m :: ms, a => by unfold ansF; rw [ansF_len t ms]; simp
def decF : List (List Int × Int) → List (List Int × Int) → Bool
  | _, [] => true
  | es, (a, o) :: r => match lkA a es 0 with
    | some (_, k) => if k = o then decF es r else false
    | none => decF (es ++ [(a, o)]) r
section
variable {ms t : List Int} {v : AV} {T8 T9 : Nat} {o : Int}
theorem dec_inner (hms : ∀ x ∈ ms, 0 ≤ x ∧ x < 40) (hn : ms.length < 2 ^ 62) (ht : t.length = 40) {H : List Blk} {M0 : List Blk} (hA : ∀ H' : List Blk, H'.take M0.length = M0 → Arr .i64 H' v ms) (h8 : H[T8]? = some (.cells (rs (ints .u8 (t ++ [o]))) ty_tally_told 0)) (h9 : T9 < H.length) (h89 : T8 ≠ T9) (hM : H.take M0.length = M0) (hM9 : M0.length ≤ T9) {mp sb tv tn ti : AV} :
    ∀ (k j : Nat) (acc : List Int) (s : St), j + k = ms.length → acc.length = 40 → ekeep [1, 5, 6, 8, 9, 15, 16, 17, 21, 22, 23] s.env = [(1, v), (5, mp), (6, sb), (8, .own T8 0 0), (9, .own T9 0 0), (15, tv), (16, tn), (17, ti), (21, v), (22, i64 ms.length), (23, i64 j)] →
      s.m.h = H.set T9 (.cells (rs (ints .u8 acc)) ty_tally_truth 0) → (∀ x ∈ s.m.wr, M0.length ≤ x) → s.defs = [] →
      ∃ s', Loop C [1, 5, 6, 8, 9, 15, 16, 17, 21, 22, 23] l_tally_decide_0 s (.exit 2) s' ∧ s'.m.h = H.set T9 (.cells (rs (ints .u8 (ansF t (ms.drop j) acc))) ty_tally_truth 0) ∧ (∀ x ∈ s'.m.wr, M0.length ≤ x) ∧ s'.defs = [] ∧
        ekeep [1, 5, 6, 8, 9, 15, 16, 17] s'.env = [(1, v), (5, mp), (6, sb), (8, .own T8 0 0), (9, .own T9 0 0), (15, tv), (16, tn), (17, ti)] := by
  intro k
  induction k with
  | zero =>
    intro j acc s hj hacc he hm hw hd
    have e0 : ((j : Int) < (ms.length : Int)) = False := eq_false (by omega)
    have : ms.drop j = [] := List.drop_eq_nil_of_le (by omega)
    rw [this]
    exact ⟨_, .stop (.of fun K => by rw [he]; simp [l_tally_decide_0, e0]; rfl) (by simp), by simp [hm, ansF], by simpa using hw, by simp [hd], by simp⟩
  | succ k ih =>
    intro j acc s hj hacc he hm hw hd
    obtain ⟨M, hMM⟩ : ∃ M, M = s.m := ⟨_, rfl⟩
    obtain ⟨h, w⟩ := M
    rw [← hMM] at hm hw
    simp only at hm hw
    have e0 : ((j : Int) < (ms.length : Int)) = True := eq_true (by omega)
    have w1 : IntKind.wrap .i64 ((j : Int) + 1) = j + 1 := by rw [w64] <;> omega
    have hjl : j < ms.length := by omega
    obtain ⟨a, ha, hld⟩ := (hA (H.set T9 (.cells (rs (ints .u8 acc)) ty_tally_truth 0)) (by rw [List.take_set_of_le hM9]; exact hM)).el j hjl
    have hld := hld w
    rw [getD_get hjl] at hld
    obtain ⟨x, hx⟩ : ∃ x, x = ms[j] := ⟨_, rfl⟩
    have hxr := hms ms[j] (List.getElem_mem hjl)
    rw [← hx] at hld hxr
    have e1 : (0 ≤ x) = True := eq_true hxr.1
    have e2 : (x < 40) = True := eq_true hxr.2
    have hdrop : ms.drop j = x :: ms.drop (j + 1) := by rw [hx]; exact List.drop_eq_getElem_cons hjl
    have g8 : (H.set T9 (.cells (rs (ints .u8 acc)) ty_tally_truth 0))[T8]? = some (.cells (rs (ints .u8 (t ++ [o]))) ty_tally_told 0) := by rw [List.getElem?_set_ne (by omega)]; exact h8
    have g9 : (H.set T9 (.cells (rs (ints .u8 acc)) ty_tally_truth 0))[T9]? = some (.cells (rs (ints .u8 acc)) ty_tally_truth 0) := List.getElem?_set_self h9
    have hl8 : (rs (ints .u8 (t ++ [o]))).length = 41 := by rw [rs_len, ints_len]; simp [ht]
    have hl9 : (rs (ints .u8 acc)).length = 40 := by rw [rs_len, ints_len, hacc]
    have hxn : x.toNat < 40 := by omega
    have t8 := take_one_ints (k := .u8) (l := t ++ [o]) (j := x.toNat) (by simp; omega)
    have hg8 : (t ++ [o]).getD x.toNat 0 = t.getD x.toNat 0 := by
      rw [getD_get (by simp; omega), getD_get (by omega), List.getElem_append_left]
    rw [hg8] at t8
    obtain ⟨y, hy⟩ : ∃ y, y = t.getD x.toNat 0 := ⟨_, rfl⟩
    rw [← hy] at t8
    have p9 := put_ints (k := .u8) (l := acc) (j := x.toNat) (by omega) y
    have o8 : (x.toNat + 1 ≤ 41) = True := eq_true (by omega)
    have o9 : (x.toNat + 1 ≤ 40) = True := eq_true (by omega)
    obtain ⟨s', h1, h2, h3, h4, h5⟩ := ih (j + 1) (acc.set x.toNat y) { s with env := [(1, v), (5, mp), (6, sb), (8, .own T8 0 0), (9, .own T9 0 0), (15, tv), (16, tn), (17, ti), (21, v), (22, i64 ms.length), (23, i64 (j + 1 : Nat))], m := { h := H.set T9 (.cells (rs (ints .u8 (acc.set x.toNat y))) ty_tally_truth 0), wr := T9 :: w } } (by omega) (by simp [hacc]) (by simp) rfl (by
      intro z hz
      rcases List.mem_cons.1 hz with rfl | hz
      · exact hM9
      · exact hw z hz) hd
    have hans : ansF t (ms.drop j) acc = ansF t (ms.drop (j + 1)) (acc.set x.toNat y) := by rw [hdrop, hy]; rfl
    obtain ⟨I8, hI8⟩ : ∃ I, I = ints .u8 (t ++ [o]) := ⟨_, rfl⟩
    obtain ⟨I9, hI9⟩ : ∃ I, I = ints .u8 acc := ⟨_, rfl⟩
    obtain ⟨I2, hI2⟩ : ∃ I, I = ints .u8 (acc.set x.toNat y) := ⟨_, rfl⟩
    rw [← hI8] at g8 hl8 t8
    rw [← hI9] at hm g8 g9 hl9 p9 hld
    rw [← hI2] at p9 h1
    refine ⟨s', .more (.of fun K => ?_) h1, by rw [hans]; exact h2, h3, h4, h5⟩
    rw [he]
    simp [l_tally_decide_0, ← hMM, hm, e0, e1, e2, w1, ha, hld, g8, g9, hl8, hl9, o8, o9, t8, p9]
end
end Go.AM.T
/- What the functions compute (own work). -/
namespace Go.AM.T
open Go Go.AM
attribute [local simp] so_mov so_pick so_alloc so_box so_build so_slit so_load so_store so_nilc so_bin so_beq so_eqs so_eqn so_eqnl so_not so_conv so_s2b so_mkfn so_slcA so_padd so_fld so_idxA so_idxV so_idxT so_look so_mupd so_mkmap so_mksl so_ext so_app so_lenT so_lenM so_min so_max so_cpy so_clr so_mkif so_tass so_lenS so_idxS so_slc
attribute [local simp] dn_skip dn_label dn_ret dn_exit dn_scope dn_keep dn_reg dn_draw0 noSlots denE denEI stepE  sd_mov sd_pick sd_build sd_load sd_store sd_nilc sd_bin sd_beq sd_eqs sd_eqn sd_eqnl sd_not sd_conv sd_s2b sd_mkfn sd_slc sd_slcA sd_padd sd_fld sd_idxS sd_idxA sd_idxV sd_idxT sd_look sd_mupd sd_ext sd_app sd_lenS sd_lenT sd_lenM sd_min sd_max sd_mkif sd_tass sd_call sd_slit dn_seq dn_cond dn_block dn_loop kn_call denIs denI denOp wants ev eget putD binL enumFrom AV.bool? AV.int? ekeep evs evp runV fin runDefs resAll resOf tupOf unit AV.cells okV ok1 Value.oneCell' fill setN rcells rs_nil rs_cons load_own load_cons mkAgg_rs storeN jmpOut
attribute [local simp] dvL dv1t dvAt mkAgg2 dv0 dv1 dv2 dv3 dv4 dv5 dv6 dv7 dv8 dv9 dv10 dvA dvN dvAll C_fz fzr
/-- What members answer, with the outcome, for some truths. -/
def ansO (d : Div) (ms : List Int) (ts : List (List Int)) : List (List Int × Int) := ts.map fun t => (ansF t ms (List.replicate 40 0), outcomeI d (numsL d t))
/-- Are the votes of some members enough? -/
def decB (d : Div) (ms : List Int) : Bool := decF [] (ansO d ms (truthsOf d))
theorem toldsC_at (d : Div) : ∀ (ts : List (List Int)) (i : Nat) (hi : i < ts.length), (∀ t ∈ ts, t.length = 40) → List.take 41 (List.drop (i * 41) (toldsC d ts)) = toldC d ts[i] ∧ 41 ≤ (List.drop (i * 41) (toldsC d ts)).length
  | t :: ts, 0, _, h => by
    have h1 := toldC_len d (h t (by simp))
    unfold toldsC
    rw [List.flatMap_cons, Nat.zero_mul, List.drop_zero]
    refine ⟨?_, by simp; omega⟩
    rw [List.take_append_of_le_length (by omega), List.take_of_length_le (by omega)]; rfl
  | t :: ts, i + 1, hi, h => by
    have h1 := toldC_len d (h t (by simp))
    have ih := toldsC_at d ts i (by simpa using hi) fun x hx => h x (by simp [hx])
    unfold toldsC at ih ⊢
    rw [List.flatMap_cons, show (i + 1) * 41 = (toldC d t).length + i * 41 by omega, List.drop_append]
    have e1 : (toldC d t).length + i * 41 - (toldC d t).length = i * 41 := by omega
    rw [List.drop_eq_nil_of_le (by omega), List.nil_append, e1]
    exact ih
section
variable {d : Div} {ms : List Int} {v : AV}
theorem dec_outer (hms : ∀ x ∈ ms, 0 ≤ x ∧ x < 40) (hn : ms.length < 2 ^ 62) {ts : List (List Int)} (hts : ∀ t ∈ ts, t.length = 40) (hcnt : ts.length < 2 ^ 62) {M0 : List Blk} (hA : ∀ H' : List Blk, H'.take M0.length = M0 → Arr .i64 H' v ms) (hAl : lenOf v = some ms.length) (cap : Option Nat) :
    ∀ (k i : Nat) (es : List (List Int × Int)) (s : St), i + k = ts.length → (∀ e ∈ es, e.1.length = 40) → ekeep [1, 5, 6, 15, 16, 17] s.env = [(1, v), (5, .omap M0.length), (6, bo true), (15, .r (.sl (toldsC d ts) ts.length cap)), (16, i64 ts.length), (17, i64 i)] →
      s.m.h.take (M0.length + 1) = M0 ++ [.map (mapC es)] → (∀ x ∈ s.m.wr, M0.length ≤ x) → s.defs = [] →
      ∃ s', Loop C [1, 5, 6, 15, 16, 17] l_tally_decide_1 s (.exit 0) s' ∧ eget s'.env 6 = bo (decF es (ansO d ms (ts.drop i))) ∧ s'.m.h.take M0.length = M0 ∧ (∀ x ∈ s'.m.wr, M0.length ≤ x) ∧ s'.defs = [] := by
  intro k
  induction k with
  | zero =>
    intro i es s hi hes he hm hw hd
    have e0 : ((i : Int) < (ts.length : Int)) = False := eq_false (by omega)
    have : ts.drop i = [] := List.drop_eq_nil_of_le (by omega)
    rw [this]
    refine ⟨_, .stop (.of fun K => by rw [he]; simp [l_tally_decide_1, e0]; rfl) (by simp), by simp [ansO, decF], ?_, by simpa using hw, by simp [hd]⟩
    have := congrArg (List.take M0.length) hm
    rw [List.take_take, Nat.min_eq_left (by omega), List.take_left'] at this
    · simpa using this
    · rfl
  | succ k ih =>
    intro i es s hi hes he hm hw hd
    obtain ⟨M, hMM⟩ : ∃ M, M = s.m := ⟨_, rfl⟩
    obtain ⟨H, W⟩ := M
    rw [← hMM] at hm hw
    simp only at hm hw
    have e0 : ((i : Int) < (ts.length : Int)) = True := eq_true (by omega)
    have w1 : IntKind.wrap .i64 ((i : Int) + 1) = i + 1 := by rw [w64] <;> omega
    have hil : i < ts.length := by omega
    obtain ⟨t, ht⟩ : ∃ t, t = ts[i] := ⟨_, rfl⟩
    have ht40 : t.length = 40 := by rw [ht]; exact hts _ (List.getElem_mem hil)
    have hdrop : ts.drop i = t :: ts.drop (i + 1) := by rw [ht]; exact List.drop_eq_getElem_cons hil
    obtain ⟨hta, htl⟩ := toldsC_at d ts i hil hts
    rw [← ht] at hta
    have hC := toldC_len d ht40
    obtain ⟨o, ho⟩ : ∃ o, o = outcomeI d (numsL d t) := ⟨_, rfl⟩
    have hCs : toldC d t = ints .u8 (t ++ [o]) := by rw [ho]; rfl
    have hHl : M0.length + 1 ≤ H.length := by
      have := congrArg List.length hm
      rw [List.length_take] at this
      simp at this; omega
    have hat : atOf 41 (.r (.sl (toldsC d ts) ts.length cap)) (i : Int) = some (.r (.ptr (List.drop (i * 41) (toldsC d ts)))) := by
      simp only [atOf]; rw [if_pos ⟨by omega, by omega⟩]; simp
    obtain ⟨H2, hH2⟩ : ∃ H2, H2 = H ++ [.cells (rs (toldC d t)) ty_tally_told 0, .cells (rs z_tally_truth) ty_tally_truth 0] := ⟨_, rfl⟩
    have hl2 : H2.length = H.length + 2 := by simp [hH2]
    have hM : H.take M0.length = M0 := by
      have := congrArg (List.take M0.length) hm
      rw [List.take_take, Nat.min_eq_left (by omega), List.take_left'] at this
      · exact this
      · rfl
    have hM2 : H2.take M0.length = M0 := by rw [hH2, List.take_append_of_le_length (by omega)]; exact hM
    have hm2 : H2.take (M0.length + 1) = M0 ++ [.map (mapC es)] := by rw [hH2, List.take_append_of_le_length (by omega)]; exact hm
    have g8 : H2[H.length]? = some (.cells (rs (ints .u8 (t ++ [o]))) ty_tally_told 0) := by rw [hH2, hCs]; simp
    have g9 : H2[H.length + 1]? = some (.cells (rs z_tally_truth) ty_tally_truth 0) := by simp [hH2]
    obtain ⟨s2, l2, m2, w2, d2, e2⟩ := dec_inner (T8 := H.length) (T9 := H.length + 1) (o := o) hms hn ht40 (H := H2) hA g8 (by omega) (by omega) hM2 (by omega) (mp := .omap M0.length) (sb := bo true) (tv := .r (.sl (toldsC d ts) ts.length cap)) (tn := i64 ts.length) (ti := i64 i)
      ms.length 0 (List.replicate 40 0) { s with env := [(23, i64 0), (22, i64 ms.length), (21, v), (9, .own (H.length + 1) 0 0), (1, v), (5, .omap M0.length), (6, bo true), (8, .own H.length 0 0), (15, .r (.sl (toldsC d ts) ts.length cap)), (16, i64 ts.length), (17, i64 i)], m := { h := H2, wr := H.length :: W } } (by omega) (by simp) (by simp) (by rw [truth_zero] at g9; exact (set_same g9).symm) (by
        intro z hz
        rcases List.mem_cons.1 hz with rfl | hz
        · omega
        · exact hw z hz) hd
    obtain ⟨c2, k2⟩ := l2.get
    rw [List.drop_zero] at m2
    obtain ⟨A, hAA⟩ : ∃ A, A = ansF t ms (List.replicate 40 0) := ⟨_, rfl⟩
    have hA40 : A.length = 40 := by rw [hAA, ansF_len]; simp
    rw [← hAA] at m2
    obtain ⟨H3, hH3⟩ : ∃ H3, H3 = H2.set (H.length + 1) (.cells (rs (ints .u8 A)) ty_tally_truth 0) := ⟨_, rfl⟩
    rw [← hH3] at m2
    have hm3 : H3.take (M0.length + 1) = M0 ++ [.map (mapC es)] := by rw [hH3, List.take_set_of_le (by omega)]; exact hm2
    have gM : H3[M0.length]? = some (.map (mapC es)) := by rw [take_get hm3 (by omega)]; simp
    have g38 : H3[H.length]? = some (.cells (rs (ints .u8 (t ++ [o]))) ty_tally_told 0) := by rw [hH3, List.getElem?_set_ne (by omega)]; exact g8
    have g39 : H3[H.length + 1]? = some (.cells (rs (ints .u8 A)) ty_tally_truth 0) := by rw [hH3, List.getElem?_set_self (by omega)]
    have hfind := findK_lk hA40 es 0 hes
    have e2' : eget s2.env 1 = v ∧ eget s2.env 5 = .omap M0.length ∧ eget s2.env 6 = bo true ∧ eget s2.env 8 = .own H.length 0 0 ∧ eget s2.env 9 = .own (H.length + 1) 0 0 ∧ eget s2.env 15 = .r (.sl (toldsC d ts) ts.length cap) ∧ eget s2.env 16 = i64 ts.length ∧ eget s2.env 17 = i64 i := by simpa [ekeep] using e2
    obtain ⟨f1, f5, f6, f8, f9, f15, f16, f17⟩ := e2'
    have hl8 : (rs (ints .u8 (t ++ [o]))).length = 41 := by rw [rs_len, ints_len]; simp [ht40]
    have hl9 : (rs (ints .u8 A)).length = 40 := by rw [rs_len, ints_len, hA40]
    have t9 : List.take 40 (rs (ints .u8 A)) = rs (ints .u8 A) := List.take_of_length_le (by omega)
    have t8 : List.take 1 (List.drop 40 (rs (ints .u8 (t ++ [o])))) = [u8 o] := by
      rw [take_one_ints (by simp; omega)]; simp [List.getElem?_append_right, ht40]
    have hans : ansO d ms (ts.drop i) = (A, o) :: ansO d ms (ts.drop (i + 1)) := by rw [hdrop, hAA, ho]; rfl
    obtain ⟨TC, hTC⟩ : ∃ TC, TC = toldsC d ts := ⟨_, rfl⟩
    obtain ⟨I8, hI8⟩ : ∃ I, I = ints .u8 (t ++ [o]) := ⟨_, rfl⟩
    obtain ⟨I9, hI9⟩ : ∃ I, I = ints .u8 A := ⟨_, rfl⟩
    obtain ⟨w, hw2⟩ : ∃ w, w = s2.m.wr := ⟨_, rfl⟩
    have hsm : s2.m = { h := H3, wr := w } := by rw [← m2, hw2]
    rw [hCs] at hta hH2 hC
    rw [← hTC] at hta htl hat f15 k2
    rw [← hI8] at hta hH2 hC g38 hl8 t8
    rw [← hI9] at g39 hl9 t9 hfind
    rw [← hw2] at w2
    have hZl : (rs z_tally_told).length = 41 := by rw [rs_len]; rfl
    have hZd : List.drop 41 (rs z_tally_told) = [] := List.drop_eq_nil_of_le (by omega)
    have hset : ∀ b, (H ++ [Blk.cells (rs z_tally_told) ty_tally_told 0]).set H.length b = H ++ [b] := fun b => by simp
    have hget : (H ++ [Blk.cells (rs z_tally_told) ty_tally_told 0])[H.length]? = some (Blk.cells (rs z_tally_told) ty_tally_told 0) := by simp
    have hH2' : (H ++ [Blk.cells (rs I8) ty_tally_told 0]) ++ [.cells (rs z_tally_truth) ty_tally_truth 0] = H2 := by rw [hH2]; simp
    obtain ⟨ZT, hZT⟩ : ∃ ZT, ZT = rs z_tally_told := ⟨_, rfl⟩
    rw [← hZT] at hZl hZd hset hget
    rw [hans]
    have hwM : ∀ x ∈ w, M0.length ≤ x := w2
    have htl' : (41 ≤ TC.length - i * 41) = True := eq_true (by rw [List.length_drop] at htl; exact htl)
    cases hlk : lkA A es 0 with
    | none =>
      rw [hlk] at hfind
      have hdec : decF es ((A, o) :: ansO d ms (ts.drop (i + 1))) = decF (es ++ [(A, o)]) (ansO d ms (ts.drop (i + 1))) := by
        conv => lhs; unfold decF
        rw [hlk]
      have hmap : mapC es ++ [(.agg I9, u8 o)] = mapC (es ++ [(A, o)]) := by rw [hI9]; unfold mapC; simp
      obtain ⟨H4, hH4⟩ : ∃ H4, H4 = H3.set M0.length (.map (mapC (es ++ [(A, o)]))) := ⟨_, rfl⟩
      obtain ⟨s', h1, h2, h3, h4, h5⟩ := ih (i + 1) (es ++ [(A, o)]) { s2 with env := [(1, v), (5, .omap M0.length), (6, bo true), (15, .r (.sl TC ts.length cap)), (16, i64 ts.length), (17, i64 (i + 1 : Nat))], m := { h := H4, wr := M0.length :: w } } (by omega) (by
        intro x hx
        rcases List.mem_append.1 hx with hx | hx
        · exact hes x hx
        · simp at hx; subst hx; exact hA40) (by rw [hTC]; simp) (by
        show H4.take (M0.length + 1) = _
        rw [hH4, List.take_set, hm3]; simp) (by
        intro x hx
        rcases List.mem_cons.1 hx with rfl | hx
        · exact Nat.le_refl _
        · exact hwM x hx) d2
      rw [hdec]
      refine ⟨s', .more (.ofN ⟨c2, fun n hn' => ?_⟩) h1, h2, h3, h4, h5⟩
      have k2 := k2 n hn'
      rw [he, ← hTC]
      simp [l_tally_decide_1, ← hMM, e0, w1, hat, load_agg, htl', hta, hC, ← hZT, hZl, hZd, rs_len, ← hH2, hAl, k2, hsm, f1, f5, f6, f8, f9, f15, f16, f17, gM, g38, g39, hl8, hl9, t9, t8, hfind, hmap, ← hH4]
    | some x =>
      obtain ⟨j, q⟩ := x
      rw [hlk] at hfind
      by_cases hq : q = o
      · subst hq
        have hdec : decF es ((A, q) :: ansO d ms (ts.drop (i + 1))) = decF es (ansO d ms (ts.drop (i + 1))) := by
          conv => lhs; unfold decF
          rw [hlk]; simp
        have hmap : (mapC es).set j (.agg I9, u8 q) = mapC es := by rw [hI9]; exact mapC_set hlk
        have hsame : H3.set M0.length (.map (mapC es)) = H3 := set_same gM
        obtain ⟨s', h1, h2, h3, h4, h5⟩ := ih (i + 1) es { s2 with env := [(1, v), (5, .omap M0.length), (6, bo true), (15, .r (.sl TC ts.length cap)), (16, i64 ts.length), (17, i64 (i + 1 : Nat))], m := { h := H3, wr := M0.length :: w } } (by omega) hes (by rw [hTC]; simp) hm3 (by
          intro x hx
          rcases List.mem_cons.1 hx with rfl | hx
          · exact Nat.le_refl _
          · exact hwM x hx) d2
        rw [hdec]
        refine ⟨s', .more (.ofN ⟨c2, fun n hn' => ?_⟩) h1, h2, h3, h4, h5⟩
        have k2 := k2 n hn'
        rw [he, ← hTC]
        simp [l_tally_decide_1, ← hMM, e0, w1, hat, load_agg, htl', hta, hC, ← hZT, hZl, hZd, rs_len, ← hH2, hAl, k2, hsm, f1, f5, f6, f8, f9, f15, f16, f17, gM, g38, g39, hl8, hl9, t9, t8, hfind, hmap, hsame]
      · have hdec : decF es ((A, o) :: ansO d ms (ts.drop (i + 1))) = false := by
          unfold decF
          rw [hlk]; simp [hq]
        have hq' : (q == o) = false := by simpa using hq
        rw [hdec]
        have hMm : H3.take M0.length = M0 := by
          have := congrArg (List.take M0.length) hm3
          rw [List.take_take, Nat.min_eq_left (by omega), List.take_left'] at this
          · exact this
          · rfl
        have hst : ∃ s', Den C l_tally_decide_1 { s with env := ekeep [1, 5, 6, 15, 16, 17] s.env } (.exit 0) s' ∧ eget s'.env 6 = bo false ∧ s'.m = { h := H3, wr := w } ∧ s'.defs = [] := by
          exact ⟨_, .ofN ⟨c2, fun n hn' => by
            have k2 := k2 n hn'
            rw [he, ← hTC]
            simp [l_tally_decide_1, ← hMM, e0, w1, hat, load_agg, htl', hta, hC, ← hZT, hZl, hZd, rs_len, ← hH2, hAl, k2, hsm, f1, f5, f6, f8, f9, f15, f16, f17, gM, g38, g39, hl8, hl9, t9, t8, hfind, hq', hq]
            rfl⟩, by simp, by simp, by simp [d2]⟩
        obtain ⟨s', h1, h2, h3, h4⟩ := hst
        exact ⟨s', .stop h1 (by simp), h2, by rw [h3]; exact hMm, by rw [h3]; exact hwM, h4⟩
end
end Go.AM.T
/- What the functions compute (own work). -/
namespace Go.AM.T
open Go Go.AM
attribute [local simp] so_mov so_pick so_alloc so_box so_build so_slit so_load so_store so_nilc so_bin so_beq so_eqs so_eqn so_eqnl so_not so_conv so_s2b so_mkfn so_slcA so_padd so_fld so_idxA so_idxV so_idxT so_look so_mupd so_mkmap so_mksl so_ext so_app so_lenT so_lenM so_min so_max so_cpy so_clr so_mkif so_tass so_lenS so_idxS so_slc
attribute [local simp] dn_skip dn_label dn_ret dn_exit dn_scope dn_keep dn_reg dn_draw0 noSlots denE denEI stepE  sd_mov sd_pick sd_build sd_load sd_store sd_nilc sd_bin sd_beq sd_eqs sd_eqn sd_eqnl sd_not sd_conv sd_s2b sd_mkfn sd_slc sd_slcA sd_padd sd_fld sd_idxS sd_idxA sd_idxV sd_idxT sd_look sd_mupd sd_ext sd_app sd_lenS sd_lenT sd_lenM sd_min sd_max sd_mkif sd_tass sd_call sd_slit dn_seq dn_cond dn_block dn_loop kn_call denIs denI denOp wants ev eget putD binL enumFrom AV.bool? AV.int? ekeep evs evp runV fin runDefs resAll resOf tupOf unit AV.cells okV ok1 Value.oneCell' fill setN rcells rs_nil rs_cons load_own load_cons mkAgg_rs storeN jmpOut
attribute [local simp] dvL dv1t dvAt mkAgg2 dv0 dv1 dv2 dv3 dv4 dv5 dv6 dv7 dv8 dv9 dv10 dvA dvN dvAll C_fz fzr
section
variable {d : Div} {ms : List Int} {v : AV}
theorem decide_spec (hms : ∀ x ∈ ms, 0 ≤ x ∧ x < 40) (hn : ms.length < 2 ^ 62) (hd40 : d.n ≤ 40) (e : openI d = 0) (m : Mem) (hA : ∀ H' : List Blk, H'.take m.h.length = m.h → Arr .i64 H' v ms) : CallR C (fnv fn_tally_decide) [.r (allV d), v] m (.ret (bo (decB d ms)) m) := by
  have hcnt := truthsOf_count e
  have hts := truthsOf_len hd40
  obtain ⟨s, l1, h2, h3, h4, h5⟩ := dec_outer (d := d) hms hn hts (by omega) (M0 := m.h) hA (hA m.h (by simp)).len none (truthsOf d).length 0 [] { env := [(17, i64 0), (16, i64 (truthsOf d).length), (15, .r (allV d)), (6, bo true), (0, .r (allV d)), (1, v), (5, .omap m.h.length)], m := { h := m.h ++ [.map []] } } (by omega) (by simp) (by simp [allV]) (by rw [List.take_of_length_le (by simp)]; rfl) (by simp) rfl
  obtain ⟨c1, k1⟩ := l1.get
  rw [List.drop_zero, show decF [] (ansO d ms (truthsOf d)) = decB d ms from rfl] at h2
  have hl : lenOf (.r (allV d)) = some (truthsOf d).length := rfl
  obtain ⟨V, hV⟩ : ∃ V, V = allV d := ⟨_, rfl⟩
  rw [← hV] at k1 hl ⊢
  exact CallR.eval (m1 := s.m) rfl rfl prog_tally_decide rfl ⟨c1, fun k hk => by simp [a_tally_decide, hl, k1 k hk, h2, h5]⟩ h3 h4
/-- A copy of a list of numbers. -/
theorem CloneI_spec {l : List Int} {v : AV} {m : Mem} (hl : l.length < 900000) (hv : v = .r .nil ∧ l = [] ∨ (∃ B g T cap, v = .osl B g 0 l.length 1 cap ∧ m.h[B]? = some (.cells (rs (ints .i64 l)) T g) ∧ 0 < l.length)) :
    CallR C (fnv fn_slices_Clone_Sint_int) [v] m (.ret (.r (slI l)) m) := by
  rcases hv with ⟨rfl, rfl⟩ | ⟨B, g, T, cap, rfl, hB, hpos⟩
  · exact CallR.eval0 rfl rfl prog_slices_Clone_Sint_int rfl ⟨0, fun k _ => by simp [a_slices_Clone_Sint_int, slI, gsV]⟩
  · have hsl : ∀ W, slCells { h := m.h, wr := W } (.osl B g 0 l.length 1 cap) 1 = some (rs (ints .i64 l), l.length) := fun W => by
      simp only [slCells, rcells, hB, if_true]
      rw [if_pos ⟨trivial, by rw [rs_len, ints_len]; omega⟩, List.drop_zero, List.take_of_length_le (by rw [rs_len, ints_len]; omega)]
    have happ : ∀ W, appendA { h := m.h, wr := W } ty_int 1 8 (.r (.sl [] 0 (some 0))) (.osl B g 0 l.length 1 cap) = some (.osl m.h.length 0 0 l.length 1 none, { h := m.h ++ [.cells (rs (ints .i64 l)) ty_int 0], wr := W }) := fun W => by
      unfold appendA
      rw [hsl]
      simp only
      rw [if_neg (by omega), if_pos ⟨by omega, rfl, by simp [roomOk]; omega⟩]
      simp [rs]
    have hz : ∀ W, fz { h := m.h ++ [.cells (rs (ints .i64 l)) ty_int 0], wr := W } m.h.length 1000000 (.osl m.h.length 0 0 l.length 1 none) = some (.r (.sl (ints .i64 l) l.length none)) := fun W => fz_osl (t := ty_int) (g := 0) (by simp) (Nat.le_refl _) (by rw [ints_len]; omega) (by rw [ints_len]; omega)
    have hs : slI l = .sl (ints .i64 l) l.length none := by unfold slI gsV; rw [if_neg (by omega)]
    obtain ⟨I, hI⟩ : ∃ I, I = ints .i64 l := ⟨_, rfl⟩
    obtain ⟨n, hn⟩ : ∃ n, n = l.length := ⟨_, rfl⟩
    rw [hs]
    rw [← hI] at happ hz ⊢
    rw [← hn] at happ hz ⊢
    exact CallR.eval (m1 := { h := m.h ++ [.cells (rs I) ty_int 0], wr := [] }) rfl rfl prog_slices_Clone_Sint_int rfl ⟨0, fun k _ => by simp [a_slices_Clone_Sint_int, allR, repl, happ, hz]⟩ (by simp) (by simp)
/-- The function that tries members. -/
def chV (F T D Ch : Nat) : AV := .fn fn_tally_Ask_1 [] [.own F 0 0, .own T 1 0, .own D 1 0, .own Ch 0 0]
/-- A list of members that a heap has. -/
def Now (H : List Blk) (v : AV) (l : List Int) : Prop := v = .r .nil ∧ l = [] ∨ (∃ B g T cap, v = .osl B g 0 l.length 1 cap ∧ H[B]? = some (.cells (rs (ints .i64 l)) T g) ∧ 0 < l.length)
theorem Now.arr {H : List Blk} {v : AV} {l : List Int} (h : Now H v l) : Arr .i64 H v l := by
  rcases h with ⟨rfl, rfl⟩ | ⟨B, g, T, cap, rfl, hB, _⟩
  · exact Arr.ofSl Sl.nil
  · exact Arr.osl hB
theorem Now.keep {H H' : List Blk} {v : AV} {l : List Int} (h : Now H v l) (hk : ∀ (j : Nat) (T : TypeId) (g : Nat), H[j]? = some (Blk.cells (rs (ints .i64 l)) T g) → H'[j]? = some (Blk.cells (rs (ints .i64 l)) T g)) : Now H' v l := by
  rcases h with h | ⟨B, g, T, cap, h1, hB, h2⟩
  · exact .inl h
  · exact .inr ⟨B, g, T, cap, h1, hk _ _ _ hB, h2⟩
theorem choose_leaf {F T D Ch : Nat} {l : List Int} {x : RV} (hl : ∀ y ∈ l, 0 ≤ y ∧ y < 40) (hlen : l.length < 900000) (hd40 : d.n ≤ 40) (e : openI d = 0) {H : List Blk} (hF : H[F]? = some (.cells [.r x] ty_Sint 0)) (hT : H[T]? = some (.cells [.r (allV d)] ty_Stally_told 1)) (hFT : F ≠ T)
    (hnv : Now H v l) (hvF : ∀ j ∈ avIdx v, j ≠ F) (from_ : Int) (W : List Nat) :
    ∃ W', CallR C (chV F T D Ch) [v, i64 from_, i64 0] { h := H, wr := W } (.ret (bo (decB d l)) { h := H.set F (.cells [.r (slI l)] ty_Sint 0), wr := W' }) ∧ ∀ y ∈ W', y ∈ W ∨ y = F := by
  have hFl := getElem?_lt hF
  obtain ⟨c1, k1⟩ := CloneI_spec (m := { h := H }) hlen hnv
  obtain ⟨H2, hH2⟩ : ∃ H2, H2 = H.set F (.cells [.r (slI l)] ty_Sint 0) := ⟨_, rfl⟩
  have hnv2 : Now H2 v l := by
    rcases hnv with h | ⟨B, g, T', cap, h1, hB, h2⟩
    · exact .inl h
    · refine .inr ⟨B, g, T', cap, h1, ?_, h2⟩
      rw [hH2, List.getElem?_set_ne]
      · exact hB
      · intro e; exact hvF B (by rw [h1]; simp [avIdx]) e.symm
  have hT2 : H2[T]? = some (.cells [.r (allV d)] ty_Stally_told 1) := by rw [hH2, List.getElem?_set_ne hFT]; exact hT
  obtain ⟨c2, k2⟩ := decide_spec (v := v) (d := d) hl (by omega) hd40 e { h := H2, wr := [F] } (fun H' hH' => by
    refine (Now.keep hnv2 fun j T' g hj => ?_).arr
    have hH' : H'.take H2.length = H2 := hH'
    rw [take_get hH' (getElem?_lt hj) |>.trans hj])
  have hset : ∃ W', Go.AM.settle C.fz (C.keepAll fn_tally_Ask_1) { h := H, wr := W } (bo (decB d l)) { h := H2, wr := [F] } = (bo (decB d l), { h := H2, wr := W' }) ∧ ∀ y ∈ W', y ∈ W ∨ y = F := by
    have := settle_one (H := H) (W := W) (W1 := [F]) (B := F) (g := 0) (T := ty_Sint) (cs := [slI l]) (v := bo (decB d l)) (v' := bo (decB d l)) hFl (by simp) (fun m => rfl)
    rw [hH2]; exact this
  obtain ⟨W', hs, hw⟩ := hset
  refine ⟨W', CallR.evalW (m1 := { h := H2, wr := [F] }) (v := bo (decB d l)) rfl prog_tally_Ask_1 rfl ⟨c1 + c2, fun k hk => ?_⟩ (by rw [hH2] at hs ⊢; exact hs), hw⟩
  obtain ⟨S, hS⟩ : ∃ S, S = slI l := ⟨_, rfl⟩
  have hok : okV (.r S) = true ∧ AV.cells (.r S) = [.r S] := by
    rw [hS]; unfold slI gsV; split <;> exact ⟨rfl, rfl⟩
  obtain ⟨V, hV⟩ : ∃ V, V = allV d := ⟨_, rfl⟩
  rw [← hS] at k1 hH2
  rw [← hV] at hT2 k2
  have h1 := hok.1
  have h2 := hok.2
  simp only [okV, ok1] at h1
  simp only [AV.cells] at h2
  simp [runK, finK, a_tally_Ask_1, -okV, -ok1, -AV.cells, k1 k (by omega), hok, hF, ← hH2, hT2, k2 k (by omega)]
end
end Go.AM.T
/- What the functions compute (own work). -/
namespace Go.AM.T
open Go Go.AM
attribute [local simp] so_mov so_pick so_alloc so_box so_build so_slit so_load so_store so_nilc so_bin so_beq so_eqs so_eqn so_eqnl so_not so_conv so_s2b so_mkfn so_slcA so_padd so_fld so_idxA so_idxV so_idxT so_look so_mupd so_mkmap so_mksl so_ext so_app so_lenT so_lenM so_min so_max so_cpy so_clr so_mkif so_tass so_lenS so_idxS so_slc
attribute [local simp] dn_skip dn_label dn_ret dn_exit dn_scope dn_keep dn_reg dn_draw0 noSlots denE denEI stepE  sd_mov sd_pick sd_build sd_load sd_store sd_nilc sd_bin sd_beq sd_eqs sd_eqn sd_eqnl sd_not sd_conv sd_s2b sd_mkfn sd_slc sd_slcA sd_padd sd_fld sd_idxS sd_idxA sd_idxV sd_idxT sd_look sd_mupd sd_ext sd_app sd_lenS sd_lenT sd_lenM sd_min sd_max sd_mkif sd_tass sd_call sd_slit dn_seq dn_cond dn_block dn_loop kn_call denIs denI denOp wants ev eget putD binL enumFrom AV.bool? AV.int? ekeep evs evp runV fin runDefs resAll resOf tupOf unit AV.cells okV ok1 Value.oneCell' fill setN rcells rs_nil rs_cons load_own load_cons mkAgg_rs storeN jmpOut
attribute [local simp] dvL dv1t dvAt mkAgg2 dv0 dv1 dv2 dv3 dv4 dv5 dv6 dv7 dv8 dv9 dv10 dvA dvN dvAll C_fz fzr
section
variable {d : Div} {F T D Ch : Nat}
theorem may_nat {d : Div} : ∀ x ∈ doubtsL d, 0 ≤ x ∧ x < d.n := by
  intro x hx
  unfold doubtsL at hx
  obtain ⟨i, hi, rfl⟩ := List.mem_map.1 hx
  have := (List.mem_filter.1 hi).1
  simp at this
  omega
theorem one_loop (hd40 : d.n ≤ 40) (e : openI d = 0) {H : List Blk} (hFl : F < H.length) (hT : H[T]? = some (.cells [.r (allV d)] ty_Stally_told 1)) (hD : H[D]? = some (.cells [.r (slI (doubtsL d))] ty_Sint 1)) (hC : H[Ch]? = some (.cells [chV F T D Ch] ty_func_Sint_int_int_bool 0))
    (hFT : F ≠ T) (hFD : F ≠ D) (hFC : F ≠ Ch) :
    ∀ (k i : Nat) (s : St) (y : RV), i + k = (doubtsL d).length → ekeep [0, 2, 5, 6, 11] s.env = [(0, .r .nil), (2, i64 1), (5, .own D 1 0), (6, .own Ch 0 0), (11, i64 i)] → s.m.h.take H.length = H.set F (.cells [.r y] ty_Sint 0) → (∀ x ∈ s.m.wr, x = F ∨ H.length ≤ x) → s.defs = [] →
      ∃ s' o z, Loop C [0, 2, 5, 6, 11] l_tally_Ask_1_0 s o s' ∧ s'.m.h.take H.length = H.set F (.cells [.r z] ty_Sint 0) ∧ (∀ x ∈ s'.m.wr, x = F ∨ H.length ≤ x) ∧ s'.defs = [] ∧
        ((o = .ret ∧ eget s'.env 10 = bo true ∧ ∃ x, ((doubtsL d).drop i).find? (fun x => decB d [x]) = some x ∧ z = slI [x]) ∨ (o = .exit 0 ∧ ((doubtsL d).drop i).find? (fun x => decB d [x]) = none)) := by
  have hS : SlI (doubtsL d) (slI (doubtsL d)) := Sl.slI _
  have hlen : (doubtsL d).length ≤ 40 := by have := doubtsL_len d; omega
  intro k
  induction k with
  | zero =>
    intro i s y hi he hm hw hd
    obtain ⟨M, hMM⟩ : ∃ M, M = s.m := ⟨_, rfl⟩
    obtain ⟨Hc, W⟩ := M
    rw [← hMM] at hm hw
    simp only at hm hw
    have hD' : Hc[D]? = some (.cells [.r (slI (doubtsL d))] ty_Sint 1) := by rw [take_get hm (getElem?_lt hD), List.getElem?_set_ne hFD]; exact hD
    have e1 : ((i : Int) < ((doubtsL d).length : Int)) = False := eq_false (by omega)
    have : (doubtsL d).drop i = [] := List.drop_eq_nil_of_le (by omega)
    rw [this]
    exact ⟨_, .exit 0, y, .stop (.of fun K => by rw [he]; simp [l_tally_Ask_1_0, ← hMM, hD', hS.len, e1]; rfl) (by simp), by simp [hm], by simpa using hw, by simp [hd], .inr ⟨rfl, rfl⟩⟩
  | succ k ih =>
    intro i s y hi he hm hw hd
    obtain ⟨M, hMM⟩ : ∃ M, M = s.m := ⟨_, rfl⟩
    obtain ⟨Hc, W⟩ := M
    rw [← hMM] at hm hw
    simp only at hm hw
    have hcl : H.length ≤ Hc.length := by
      have := congrArg List.length hm
      rw [List.length_take, List.length_set] at this; omega
    have up : ∀ j b, j ≠ F → H[j]? = some b → Hc[j]? = some b := fun j b hj hb => by rw [take_get hm (getElem?_lt hb), List.getElem?_set_ne (Ne.symm hj)]; exact hb
    have hD' := up D _ (Ne.symm hFD) hD
    have hC' := up Ch _ (Ne.symm hFC) hC
    have hT' := up T _ (Ne.symm hFT) hT
    have hF' : Hc[F]? = some (.cells [.r y] ty_Sint 0) := by rw [take_get hm hFl, List.getElem?_set_self hFl]
    have hil : i < (doubtsL d).length := by omega
    have e1 : ((i : Int) < ((doubtsL d).length : Int)) = True := eq_true (by omega)
    have w1 : IntKind.wrap .i64 ((i : Int) + 1) = i + 1 := by rw [w64] <;> omega
    obtain ⟨x, hx⟩ : ∃ x, x = (doubtsL d)[i] := ⟨_, rfl⟩
    have hxr : 0 ≤ x ∧ x < 40 := by have := may_nat (d := d) x (by rw [hx]; exact List.getElem_mem hil); omega
    have hat := hS.at (sz := 1) hil
    have hld : ∀ m, loadV m (.r (.ptr ((ints .i64 (doubtsL d)).drop i))) 1 false = some (i64 x) := fun m => by rw [load_ints hil, hx]
    have hdrop : (doubtsL d).drop i = x :: (doubtsL d).drop (i + 1) := by rw [hx]; exact List.drop_eq_getElem_cons hil
    obtain ⟨H2, hH2⟩ : ∃ H2, H2 = Hc ++ [.cells [i64 x] ty_int 0] := ⟨_, rfl⟩
    have hA : appendA { h := Hc } ty_int 1 8 (.r .nil) (.r (.sl [.lit (.int .i64 x)] 1 (some 1))) = some (.osl Hc.length 0 0 1 1 none, { h := H2 }) := by
      unfold appendA
      simp [slCells, rs, roomOk, hH2]
    have hgetN : H2[Hc.length]? = some (.cells [i64 x] ty_int 0) := by simp [hH2]
    have up2 : ∀ j b, Hc[j]? = some b → H2[j]? = some b := fun j b hb => by rw [hH2, List.getElem?_append_left (getElem?_lt hb)]; exact hb
    have hCl := getElem?_lt hC'
    obtain ⟨W2, ⟨c1, k1⟩, hw2⟩ := choose_leaf (F := F) (T := T) (D := D) (Ch := Ch) (l := [x]) (d := d) (by simpa using hxr) (by simp) hd40 e (up2 _ _ hF') (up2 _ _ hT') hFT (v := .osl Hc.length 0 0 1 1 none) (.inr ⟨Hc.length, 0, ty_int, none, rfl, by rw [hgetN]; rfl, by simp⟩) (by
      intro j hj
      simp [avIdx] at hj
      omega) (i + 1) []
    have hw2' : ∀ z ∈ W2, z = F := fun z hz => by simpa using hw2 z hz
    have hap : apartL (wrAll Hc.length { h := H2 }) [Ch] = true := by
      unfold apartL wrAll
      rw [List.all_eq_true]
      intro z hz
      simp [hH2] at hz
      subst hz
      simp; omega
    have hPm : (H2.set F (.cells [.r (slI [x])] ty_Sint 0)).take H.length = H.set F (.cells [.r (slI [x])] ty_Sint 0) := by
      rw [List.take_set, hH2, List.take_append_of_le_length hcl, hm, List.set_set]
    obtain ⟨DV, hDV⟩ : ∃ DV, DV = slI (doubtsL d) := ⟨_, rfl⟩
    obtain ⟨DI, hDI⟩ : ∃ DI, DI = ints .i64 (doubtsL d) := ⟨_, rfl⟩
    have hln := hS.len
    rw [← hDV] at hD' hat hln
    rw [← hDI] at hat hld
    obtain ⟨cv, hcv⟩ : ∃ cv, cv = chV F T D Ch := ⟨_, rfl⟩
    rw [← hcv] at hC' k1
    obtain ⟨H3, hH3⟩ : ∃ H3, H3 = H2.set F (.cells [.r (slI [x])] ty_Sint 0) := ⟨_, rfl⟩
    rw [← hH3] at k1 hPm
    have hW : ∀ z ∈ W2 ++ W, z = F ∨ H.length ≤ z := fun z hz => by
      rcases List.mem_append.1 hz with h | h
      · exact .inl (hw2' z h)
      · exact hw z h
    have hk1 : ∀ n, c1 ≤ n → callN C n cv [.osl Hc.length 0 0 1 1 none, .r (.lit (.int .i64 ((i : Int) + 1))), i64 0] { h := H2 } = some (.ret (bo (decB d [x])) { h := H3, wr := W2 }) := k1
    cases hb : decB d [x] with
    | true =>
      rw [hb] at hk1
      refine ⟨_, .ret, slI [x], .stop (.ofN ⟨c1, fun n hn => by
        rw [he]
        simp [l_tally_Ask_1_0, dn_drawF, denF, denFI, stepF, slotFree, slotOf, foot, avIdx, pairsOk, apartL_nil, wrAll_self, hap, ← hMM, hD', hln, e1, hC', hat, hld, allR, AV.toR, repl, hA, w1, wk0, hk1 n hn]
        rfl⟩) (by simp), ?_, ?_, by simp [hd], .inl ⟨rfl, by simp, x, ?_, rfl⟩⟩
      · simpa using hPm
      · simpa using hW
      · rw [hdrop, List.find?_cons, hb]
    | false =>
      rw [hb] at hk1
      obtain ⟨s', o, z, h1, h2, h3, h4, h5⟩ := ih (i + 1) { s with env := [(0, .r .nil), (2, i64 1), (5, .own D 1 0), (6, .own Ch 0 0), (11, i64 (i + 1 : Nat))], m := { h := H3, wr := W2 ++ W } } (slI [x]) (by omega) (by simp) hPm hW hd
      refine ⟨s', o, z, .more (.ofN ⟨c1, fun n hn => ?_⟩) h1, h2, h3, h4, ?_⟩
      · rw [he]
        simp [l_tally_Ask_1_0, dn_drawF, denF, denFI, stepF, slotFree, slotOf, foot, avIdx, pairsOk, apartL_nil, wrAll_self, hap, ← hMM, hD', hln, e1, hC', hat, hld, allR, AV.toR, repl, hA, w1, wk0, hk1 n hn]
      · rw [hdrop, List.find?_cons, hb]; exact h5
/-- All single members are tried. -/
theorem choose_one (hd40 : d.n ≤ 40) (e : openI d = 0) {H : List Blk} {x : RV} (hF : H[F]? = some (.cells [.r x] ty_Sint 0)) (hT : H[T]? = some (.cells [.r (allV d)] ty_Stally_told 1)) (hD : H[D]? = some (.cells [.r (slI (doubtsL d))] ty_Sint 1)) (hC : H[Ch]? = some (.cells [chV F T D Ch] ty_func_Sint_int_int_bool 0))
    (hFT : F ≠ T) (hFD : F ≠ D) (hFC : F ≠ Ch) (W : List Nat) :
    ∃ W' z, CallR C (chV F T D Ch) [.r .nil, i64 0, i64 1] { h := H, wr := W } (.ret (bo ((doubtsL d).find? fun x => decB d [x]).isSome) { h := H.set F (.cells [.r z] ty_Sint 0), wr := W' }) ∧ (∀ y ∈ W', y ∈ W ∨ y = F) ∧ ∀ x, (doubtsL d).find? (fun x => decB d [x]) = some x → z = slI [x] := by
  have hFl := getElem?_lt hF
  obtain ⟨s, o, z, l1, h2, h3, h4, h5⟩ := one_loop hd40 e hFl hT hD hC hFT hFD hFC (doubtsL d).length 0 { env := [(0, .r .nil), (2, i64 1), (5, .own D 1 0), (6, .own Ch 0 0), (11, i64 0)], m := { h := H } } x (by omega) (by simp) (by simp [set_same hF]) (by simp) rfl
  rw [List.drop_zero] at h5
  obtain ⟨c1, k1⟩ := l1.get
  obtain ⟨Hc, W1, hsm⟩ : ∃ Hc W1, s.m = { h := Hc, wr := W1 } := ⟨_, _, rfl⟩
  rw [hsm] at h2 h3
  simp only at h2 h3
  have hset : ∀ b : Bool, ∃ W', Go.AM.settle C.fz (C.keepAll fn_tally_Ask_1) { h := H, wr := W } (bo b) { h := Hc, wr := W1 } = (bo b, { h := H.set F (.cells [.r z] ty_Sint 0), wr := W' }) ∧ ∀ y ∈ W', y ∈ W ∨ y = F := by
    intro b
    refine ⟨oldWr H.length W1 ++ W, ?_, fun y hy => ?_⟩
    · rw [show C.keepAll fn_tally_Ask_1 = false from rfl, settle_w (v' := bo b) rfl]
      · show _ = (bo b, Mem.mk (H.set F _) _)
        rw [← h2]
      · intro j hj hjl q hq
        simp only at hq hjl
        have : j = F := by rcases h3 j hj with h | h <;> omega
        subst this
        rw [take_get h2 hFl, List.getElem?_set_self hFl] at hq
        cases hq; rfl
    · rcases List.mem_append.1 hy with hy | hy
      · unfold oldWr at hy
        obtain ⟨q1, q2⟩ := List.mem_filter.1 hy
        have q2 : y < H.length := by simpa using q2
        rcases h3 y q1 with h | h
        · exact .inr h
        · omega
      · exact .inl hy
  rcases h5 with ⟨rfl, h5, x', h6, h7⟩ | ⟨rfl, h6⟩
  · obtain ⟨W', hs, hw⟩ := hset true
    refine ⟨W', z, CallR.evalW (m1 := { h := Hc, wr := W1 }) (v := bo true) rfl prog_tally_Ask_1 rfl ⟨c1, fun k hk => ?_⟩ (by rw [h6]; exact hs), hw, fun y hy => by rw [h6] at hy; cases hy; exact h7⟩
    simp [runK, finK, a_tally_Ask_1, k1 k hk, h5, h4, hsm]
  · obtain ⟨W', hs, hw⟩ := hset false
    refine ⟨W', z, CallR.evalW (m1 := { h := Hc, wr := W1 }) (v := bo false) rfl prog_tally_Ask_1 rfl ⟨c1, fun k hk => ?_⟩ (by rw [h6]; exact hs), hw, fun y hy => by rw [h6] at hy; cases hy⟩
    simp [runK, finK, a_tally_Ask_1, k1 k hk, h4, hsm]
end
end Go.AM.T
/- What the functions compute (own work). -/
namespace Go.AM.T
open Go Go.AM
attribute [local simp] so_mov so_pick so_alloc so_box so_build so_slit so_load so_store so_nilc so_bin so_beq so_eqs so_eqn so_eqnl so_not so_conv so_s2b so_mkfn so_slcA so_padd so_fld so_idxA so_idxV so_idxT so_look so_mupd so_mkmap so_mksl so_ext so_app so_lenT so_lenM so_min so_max so_cpy so_clr so_mkif so_tass so_lenS so_idxS so_slc
attribute [local simp] dn_skip dn_label dn_ret dn_exit dn_scope dn_keep dn_reg dn_draw0 noSlots denE denEI stepE  sd_mov sd_pick sd_build sd_load sd_store sd_nilc sd_bin sd_beq sd_eqs sd_eqn sd_eqnl sd_not sd_conv sd_s2b sd_mkfn sd_slc sd_slcA sd_padd sd_fld sd_idxS sd_idxA sd_idxV sd_idxT sd_look sd_mupd sd_ext sd_app sd_lenS sd_lenT sd_lenM sd_min sd_max sd_mkif sd_tass sd_call sd_slit dn_seq dn_cond dn_block dn_loop kn_call denIs denI denOp wants ev eget putD binL enumFrom AV.bool? AV.int? ekeep evs evp runV fin runDefs resAll resOf tupOf unit AV.cells okV ok1 Value.oneCell' fill setN rcells rs_nil rs_cons load_own load_cons mkAgg_rs storeN jmpOut
attribute [local simp] dvL dv1t dvAt mkAgg2 dv0 dv1 dv2 dv3 dv4 dv5 dv6 dv7 dv8 dv9 dv10 dvA dvN dvAll C_fz fzr
theorem sd_slot (K : Kit) (base : Nat) (e : Env) (h : List Blk) (k : Nat) (t : TypeId) (z : List RV) : stepD K base e h (.slot k t z) = match h[base + k]? with
    | some .dead => some (.own (base + k) 1 0, { h := h.set (base + k) (.cells (rs z) t 1), wr := [base + k] })
    | _ => none := rfl
section
variable {d : Div} {a0 a1 n0 n1 p q : RV}
/-- The least question, where one member is enough. -/
theorem Ask_one (hs : DivS d a0 a1 n0 n1 p q) (hb : Small d) (hru : 0 ≤ d.rule ∧ d.rule ≤ 255) (e : openI d = 0) (h2 : 2 ≤ (doubtsL d).length) (h0 : decB d [] = false) {x : Int} (hx : (doubtsL d).find? (fun x => decB d [x]) = some x) (m : Mem) :
    CallR C (fnv fn_tally_Ask) [.r (.agg (divC d a0 a1 n0 n1 p q))] m (.ret (.tup [.r (slI [x]), i64 0]) m) := by
  obtain ⟨R, hRR⟩ : ∃ R, R = lookC d (divC d a0 a1 n0 n1 p q) := ⟨_, rfl⟩
  have lR : R.length = 91 := by rw [hRR]; exact lookC_len
  have hRt : List.take 91 (rs R) = rs R := List.take_of_length_le (by rw [rs_len]; omega)
  obtain ⟨Z, hZ⟩ : ∃ Z, Z = z_tally_looked := ⟨_, rfl⟩
  have hZl : Z.length = 91 := by rw [hZ]; rfl
  have hZd : List.drop 91 (rs Z) = [] := List.drop_eq_nil_of_le (by rw [rs_len]; omega)
  have hd11 : (divC d a0 a1 n0 n1 p q).length = 11 := rfl
  obtain ⟨hr, -, -⟩ := openI0 e
  have hn := right_n hr
  obtain ⟨c1, k1⟩ := topen_spec hs hb hru { h := m.h ++ [.cells (rs (divC d a0 a1 n0 n1 p q)) ty_tally_Division 0] }
  rw [if_pos e, e, ← hRR] at k1
  obtain ⟨c2, k2⟩ := doubts_spec (d := d) (a0 := a0) (a1 := a1) (n0 := n0) (n1 := n1) (p := p) (q := q) hn { h := m.h ++ [.cells (rs (divC d a0 a1 n0 n1 p q)) ty_tally_Division 0, .cells (rs R) ty_tally_looked 0, .dead, .dead] }
  obtain ⟨c3, k3⟩ := all_told_spec hs hru.1 e { h := m.h ++ [.cells (rs (divC d a0 a1 n0 n1 p q)) ty_tally_Division 0, .cells (rs R) ty_tally_looked 0, .dead, .dead] }
  rw [← hRR] at k2 k3
  obtain ⟨D, hD⟩ : ∃ D, D = divC d a0 a1 n0 n1 p q := ⟨_, rfl⟩
  rw [← hD] at k1 k2 k3 hd11 ⊢
  have hDt : List.take 11 (rs D) = rs D := List.take_of_length_le (by rw [rs_len]; omega)
  obtain ⟨F, hF⟩ : ∃ F, F = m.h.length + 4 := ⟨_, rfl⟩
  obtain ⟨H, hH⟩ : ∃ H, H = m.h ++ [.cells (rs D) ty_tally_Division 0, .cells (rs R) ty_tally_looked 0, .cells [.r (slI (doubtsL d))] ty_Sint 1, .cells [.r (allV d)] ty_Stally_told 1, .cells [.r .nil] ty_Sint 0, .cells [chV (m.h.length + 4) (m.h.length + 3) (m.h.length + 2) (m.h.length + 5)] ty_func_Sint_int_int_bool 0] := ⟨_, rfl⟩
  have g2 : H[m.h.length + 2]? = some (.cells [.r (slI (doubtsL d))] ty_Sint 1) := by rw [hH, get_midk]; rfl
  have g3 : H[m.h.length + 3]? = some (.cells [.r (allV d)] ty_Stally_told 1) := by rw [hH, get_midk]; rfl
  have g4 : H[m.h.length + 4]? = some (.cells [.r .nil] ty_Sint 0) := by rw [hH, get_midk]; rfl
  have g5 : H[m.h.length + 5]? = some (.cells [chV (m.h.length + 4) (m.h.length + 3) (m.h.length + 2) (m.h.length + 5)] ty_func_Sint_int_int_bool 0) := by rw [hH, get_midk]; rfl
  obtain ⟨W1, ⟨c4, k4⟩, hw1⟩ := choose_leaf (F := m.h.length + 4) (T := m.h.length + 3) (D := m.h.length + 2) (Ch := m.h.length + 5) (l := []) (d := d) (by simp) (by simp) hn.2 e g4 g3 (by omega) (v := .r .nil) (.inl ⟨rfl, rfl⟩) (by simp [avIdx]) 0 [m.h.length + 5, m.h.length + 3, m.h.length + 2, m.h.length + 3, m.h.length + 2, m.h.length + 1]
  rw [h0] at k4
  obtain ⟨H2, hH2⟩ : ∃ H2, H2 = H.set (m.h.length + 4) (.cells [.r (slI [])] ty_Sint 0) := ⟨_, rfl⟩
  rw [← hH2] at k4
  have f2 : H2[m.h.length + 2]? = some (.cells [.r (slI (doubtsL d))] ty_Sint 1) := by rw [hH2, List.getElem?_set_ne (by omega)]; exact g2
  have f3 : H2[m.h.length + 3]? = some (.cells [.r (allV d)] ty_Stally_told 1) := by rw [hH2, List.getElem?_set_ne (by omega)]; exact g3
  have f4 : H2[m.h.length + 4]? = some (.cells [.r (slI [])] ty_Sint 0) := by rw [hH2, List.getElem?_set_self (getElem?_lt g4)]
  have f5 : H2[m.h.length + 5]? = some (.cells [chV (m.h.length + 4) (m.h.length + 3) (m.h.length + 2) (m.h.length + 5)] ty_func_Sint_int_int_bool 0) := by rw [hH2, List.getElem?_set_ne (by omega)]; exact g5
  obtain ⟨W2, z, ⟨c5, k5⟩, hw2, hz⟩ := choose_one (x := slI []) hn.2 e f4 f3 f2 f5 (by omega) (by omega) (by omega) W1
  rw [hx] at k5
  have hz := hz x hx
  rw [hz] at k5
  obtain ⟨H3, hH3⟩ : ∃ H3, H3 = H2.set (m.h.length + 4) (.cells [.r (slI [x])] ty_Sint 0) := ⟨_, rfl⟩
  rw [← hH3] at k5
  have i4 : H3[m.h.length + 4]? = some (.cells [.r (slI [x])] ty_Sint 0) := by rw [hH3, List.getElem?_set_self (getElem?_lt f4)]
  have e1 : (0 < ((doubtsL d).length : Int)) = True := eq_true (by omega)
  have e2 : (1 < ((doubtsL d).length : Int)) = True := eq_true (by omega)
  have e1' : (0 < (doubtsL d).length) = True := eq_true (by omega)
  have e2' : (1 < (doubtsL d).length) = True := eq_true (by omega)
  have hl := (Sl.slI (doubtsL d)).len
  have ht : H3.take m.h.length = m.h := by rw [hH3, List.take_set_of_le (by omega), hH2, List.take_set_of_le (by omega), hH]; simp
  have hxs : slI [x] = .sl [.lit (.int .i64 x)] 1 none := rfl
  obtain ⟨DI, n, hDV⟩ : ∃ DI n, slI (doubtsL d) = .sl DI n none := ⟨ints .i64 (doubtsL d), (doubtsL d).length, by unfold slI gsV; rw [if_neg (by omega)]⟩
  obtain ⟨TC, tn, hV⟩ : ∃ TC tn, allV d = .sl TC tn none := ⟨_, _, rfl⟩
  rw [hDV] at hl k2 g2 f2 hH
  rw [hV] at k3 g3 f3 hH
  have hwr : ∀ y ∈ W2, m.h.length ≤ y := fun y hy => by
    rcases hw2 y hy with h | rfl
    · rcases hw1 y h with h | rfl
      · simp at h; omega
      · omega
    · omega
  simp only [chV] at hH k4 k5 g5 f5
  refine CallR.eval (m1 := { h := H3, wr := W2 }) rfl rfl prog_tally_Ask rfl ⟨c1 + c2 + c3 + c4 + c5 + 5, fun k hk => ?_⟩ ht hwr
  obtain ⟨j, rfl⟩ : ∃ j, k = j + 5 := ⟨k - 5, by omega⟩
  have l21 : m.h.length + 2 + 1 = m.h.length + 3 := rfl
  simp [a_tally_Ask, l21, dn_drawF, sd_slot, denF, denFI, stepF, slotFree, slotOf, foot, avIdx, wrAll, pairsOk, apartL, ← hZ, hd11, hDt, rs_len, hZl, hZd, lR, hRt, k1 (j + 5) (by omega), k2 (j + 5) (by omega), k3 (j + 5) (by omega), allR, AV.toR, ← hH, goLoop, kn_iter, iterN, l_tally_Ask_0, g2, g5, f2, f5, i4, hl, e1, e2, e1', e2', wk0, wk1, k4 (j + 5) (by omega), k5 (j + 5) (by omega), hxs, fz, fzs]
end
end Go.AM.T
/- What the functions compute (own work). -/
namespace Go.AM.T
open Go Go.AM
attribute [local simp] so_mov so_pick so_alloc so_box so_build so_slit so_load so_store so_nilc so_bin so_beq so_eqs so_eqn so_eqnl so_not so_conv so_s2b so_mkfn so_slcA so_padd so_fld so_idxA so_idxV so_idxT so_look so_mupd so_mkmap so_mksl so_ext so_app so_lenT so_lenM so_min so_max so_cpy so_clr so_mkif so_tass so_lenS so_idxS so_slc
attribute [local simp] dn_skip dn_label dn_ret dn_exit dn_scope dn_keep dn_reg dn_draw0 noSlots denE denEI stepE  sd_mov sd_pick sd_build sd_load sd_store sd_nilc sd_bin sd_beq sd_eqs sd_eqn sd_eqnl sd_not sd_conv sd_s2b sd_mkfn sd_slc sd_slcA sd_padd sd_fld sd_idxS sd_idxA sd_idxV sd_idxT sd_look sd_mupd sd_ext sd_app sd_lenS sd_lenT sd_lenM sd_min sd_max sd_mkif sd_tass sd_call sd_slit dn_seq dn_cond dn_block dn_loop kn_call denIs denI denOp wants ev eget putD binL enumFrom AV.bool? AV.int? ekeep evs evp runV fin runDefs resAll resOf tupOf unit AV.cells okV ok1 Value.oneCell' fill setN rcells rs_nil rs_cons load_own load_cons mkAgg_rs storeN jmpOut
attribute [local simp] dvL dv1t dvAt mkAgg2 dv0 dv1 dv2 dv3 dv4 dv5 dv6 dv7 dv8 dv9 dv10 dvA dvN dvAll C_fz fzr
def il (l : List Int) : RV := .sl (ints .i64 l) l.length (some l.length)
def ul (l : List Int) : RV := .sl (ints .u8 l) l.length (some l.length)
def pl (l : List (Int × Int)) : RV := .sl (prs l) l.length (some l.length)
/-- The division of the document's examples. -/
def lobD : Div := ⟨6, [0, 1, 2], [0, 1, 3], [4, 5], [4, 5], [], [(4, 3)], 0, 0, 3, 2⟩
def lobC : List RV := divC lobD (il [0, 1, 2]) (il [0, 1, 3]) (il [4, 5]) (il [4, 5]) .nil (pl [(4, 3)])
theorem il_S (l : List Int) : SlI l (il l) := Sl.mk _ _ _
theorem pl_S (l : List (Int × Int)) : SlP l (pl l) := Sl.mk _ _ _
theorem lobS : DivS lobD (il [0, 1, 2]) (il [0, 1, 3]) (il [4, 5]) (il [4, 5]) .nil (pl [(4, 3)]) := ⟨il_S _, il_S _, il_S _, il_S _, Sl.nil, pl_S _⟩
theorem lobbies_spec (m : Mem) : CallR C (fnv fn_law07_lobbies) [] m (.ret (.r (.agg lobC)) m) := by
  refine CallR.eval (m1 := { h := m.h ++ [.cells (rs lobC) ty_tally_Division 0], wr := [m.h.length] }) rfl rfl prog_law07_lobbies rfl ⟨0, fun k hk => ?_⟩ (by simp) (by simp)
  simp [a_law07_lobbies, allR, AV.toR, mkAgg, repl, lobC, divC, il, pl, ints, prs, lobD]
theorem lobOpen : openI lobD = 0 := by kernel_rfl
theorem lobDoubts : doubtsL lobD = [2, 3] := by kernel_rfl
theorem lobBn : (bnL lobD).a = (2, 4) ∧ (bnL lobD).b = (2, 3) := ⟨by kernel_rfl, by kernel_rfl⟩
theorem lobAl : alS lobD = [0, 1] := by kernel_rfl
theorem lobDec0 : decB lobD [] = false := by kernel_rfl
theorem lobDec1 : (doubtsL lobD).find? (fun x => decB lobD [x]) = some 3 := by kernel_rfl
theorem lobSmall : Small lobD := ⟨by decide, by decide, by decide, by decide, by decide, by decide⟩
theorem lobRule : 0 ≤ lobD.rule ∧ lobD.rule ≤ 255 := by decide
/-- The law's examples hold, whatever memory holds. -/
theorem wakes_spec (m : Mem) : CallR C (fnv fn_law07_wakes) [] m (.ret (bo true) m) := by
  have hf : faultI lobD = 0 := by kernel_rfl
  obtain ⟨c1, k1⟩ := lobbies_spec { h := m.h }
  obtain ⟨c2, k2⟩ := Doubts_spec lobS lobSmall lobRule { h := m.h }
  obtain ⟨c3, k3⟩ := Bounds_spec lobS lobSmall lobRule { h := m.h }
  obtain ⟨H, hH⟩ : ∃ H, H = m.h ++ [.cells [i64 2, i64 4] ty_tally_Range 0, .cells [i64 2, i64 3] ty_tally_Range 0] := ⟨_, rfl⟩
  obtain ⟨c4, k4⟩ := lobbies_spec { h := H, wr := [m.h.length + 1, m.h.length] }
  obtain ⟨c5, k5⟩ := Allowed_spec lobS lobSmall lobRule { h := H, wr := [m.h.length + 1, m.h.length] }
  obtain ⟨c6, k6⟩ := Ask_one lobS lobSmall lobRule lobOpen (by rw [lobDoubts]; decide) lobDec0 lobDec1 { h := H, wr := [m.h.length + 1, m.h.length] }
  rw [if_pos hf, hf, lobDoubts] at k2
  rw [if_pos lobOpen, if_pos lobOpen, lobOpen, lobBn.1, lobBn.2] at k3
  rw [if_pos lobOpen, lobOpen, lobAl] at k5
  have g0 : H[m.h.length]? = some (.cells [i64 2, i64 4] ty_tally_Range 0) := by simp [hH]
  have g1 : H[m.h.length + 1]? = some (.cells [i64 2, i64 3] ty_tally_Range 0) := by simp [hH]
  obtain ⟨c7, k7⟩ := law07_ints_spec (Sl.slI [2, 3]) (il_S [2, 3]) (by decide) { h := H, wr := [m.h.length + 1, m.h.length] }
  obtain ⟨c8, k8⟩ := law07_ints_spec (Sl.slI [3]) (il_S [3]) (by decide) { h := H, wr := [m.h.length + 1, m.h.length] }
  obtain ⟨c9, k9⟩ := law07_votes_spec (l := [0, 1]) (k := [0, 1]) (v := .sl (ints .u8 [0, 1]) 2 none) (w := .sl (ints .u8 [0, 1]) 2 (some 2)) (Sl.mk _ _ _) (Sl.mk _ _ _) (by decide) { h := H, wr := [m.h.length + 1, m.h.length] }
  obtain ⟨Lc, hLc⟩ : ∃ Lc, Lc = lobC := ⟨_, rfl⟩
  rw [show divC lobD (il [0, 1, 2]) (il [0, 1, 3]) (il [4, 5]) (il [4, 5]) .nil (pl [(4, 3)]) = lobC from rfl, ← hLc] at k2 k3 k5 k6
  rw [← hLc] at k1 k4
  have ht : H.take m.h.length = m.h := by simp [hH]
  refine CallR.eval (m1 := { h := H, wr := [m.h.length + 1, m.h.length] }) rfl rfl prog_law07_wakes rfl ⟨c1 + c2 + c3 + c4 + c5 + c6 + c7 + c8 + c9, fun k hk => ?_⟩ ht (by simp)
  have k7 := k7 k (by omega)
  have k8 := k8 k (by omega)
  have k9 := k9 k (by omega)
  simp [slI, gsV, ints, il] at k7 k8 k9
  have k2 := k2 k (by omega)
  have k3 := k3 k (by omega)
  have k5 := k5 k (by omega)
  have k6 := k6 k (by omega)
  simp [slI, gsV, ints, nmR] at k2 k3 k5 k6
  simp [a_law07_wakes, k1 k (by omega), k2, k3, k4 k (by omega), k5, k6, ← hH, allR, AV.toR, repl, mkAgg, k7, k8, k9, g0, g1, rvEqs, rvEq]
end Go.AM.T
/- What the functions compute (own work). -/
namespace Go.AM.T
open Go Go.AM
attribute [local simp] so_mov so_pick so_alloc so_box so_build so_slit so_load so_store so_nilc so_bin so_beq so_eqs so_eqn so_eqnl so_not so_conv so_s2b so_mkfn so_slcA so_padd so_fld so_idxA so_idxV so_idxT so_look so_mupd so_mkmap so_mksl so_ext so_app so_lenT so_lenM so_min so_max so_cpy so_clr so_mkif so_tass so_lenS so_idxS so_slc
attribute [local simp] dn_skip dn_label dn_ret dn_exit dn_scope dn_keep dn_reg dn_draw0 noSlots denE denEI stepE  sd_mov sd_pick sd_build sd_load sd_store sd_nilc sd_bin sd_beq sd_eqs sd_eqn sd_eqnl sd_not sd_conv sd_s2b sd_mkfn sd_slc sd_slcA sd_padd sd_fld sd_idxS sd_idxA sd_idxV sd_idxT sd_look sd_mupd sd_ext sd_app sd_lenS sd_lenT sd_lenM sd_min sd_max sd_mkif sd_tass sd_call sd_slit dn_seq dn_cond dn_block dn_loop kn_call denIs denI denOp wants ev eget putD binL enumFrom AV.bool? AV.int? ekeep evs evp runV fin runDefs resAll resOf tupOf unit AV.cells okV ok1 Value.oneCell' fill setN rcells rs_nil rs_cons load_own load_cons mkAgg_rs storeN jmpOut
attribute [local simp] dvL dv1t dvAt mkAgg2 dv0 dv1 dv2 dv3 dv4 dv5 dv6 dv7 dv8 dv9 dv10 dvA dvN dvAll C_fz fzr
theorem tg_pad (u : List Int) (i : Nat) : tg (pad u) i = tg u i := by
  unfold tg pad
  rw [List.getD_eq_getElem?_getD, List.getD_eq_getElem?_getD]
  by_cases h : i < u.length
  · rw [List.getElem?_append_left h]
  · rw [List.getElem?_append_right (by omega), List.getElem?_eq_none (by omega : u.length ≤ i)]
    by_cases h2 : i - u.length < 40 - u.length
    · rw [List.getElem?_replicate, if_pos h2]; rfl
    · rw [List.getElem?_replicate, if_neg h2]
theorem nums_pad (d : Div) (u : List Int) : numsL d (pad u) = numsL d u := by
  have h1 : memStep d (pad u) = memStep d u := by
    funext n i; unfold memStep; rw [tg_pad]
  have h2 : proxStep d (pad u) = proxStep d u := by
    funext n x; unfold proxStep; rw [tg_pad, tg_pad]
  unfold numsL numsM
  rw [h1, h2]
/-- What the law reckons: both ranges, out of numbers. -/
def lwStep (s : (Int × Int) × (Int × Int)) (n : Int × Int) : (Int × Int) × (Int × Int) := ((mn s.1.1 n.1, mx s.1.2 n.1), (mn s.2.1 n.2, mx s.2.2 n.2))
def lw0 (n : Int × Int) : (Int × Int) × (Int × Int) := ((n.1, n.1), (n.2, n.2))
def lwL : List (Int × Int) → (Int × Int) × (Int × Int)
  | [] => ((0, 0), (0, 0))
  | n :: l => l.foldl lwStep (lw0 n)
theorem bn_lw (d : Div) : ∀ (l : List (List Int)) (s : Bn), s.first = false → (s.a.1 ≤ s.last.1 ∧ s.last.1 ≤ s.a.2) → (s.b.1 ≤ s.last.2 ∧ s.last.2 ≤ s.b.2) →
    (foldS (bnStep d) s l).1.a = ((l.map (numsL d)).foldl lwStep (s.a, s.b)).1 ∧ (foldS (bnStep d) s l).1.b = ((l.map (numsL d)).foldl lwStep (s.a, s.b)).2
  | [], s, _, _, _ => ⟨rfl, rfl⟩
  | t :: l, s, hf, ha, hb => by
    rw [foldS_cons, if_pos (bnStep_2 d s t), List.map_cons, List.foldl_cons]
    have hs : (bnStep d s t).1 = ⟨false, (mn s.a.1 (numsL d t).1, mx s.a.2 (numsL d t).1), (mn s.b.1 (numsL d t).2, mx s.b.2 (numsL d t).2), numsL d t⟩ := by
      unfold bnStep
      rw [if_neg (by simp [hf])]
      split
      · rename_i e
        rw [e]
        have h1 : mn s.a.1 s.last.1 = s.a.1 := by unfold mn; split <;> omega
        have h2 : mx s.a.2 s.last.1 = s.a.2 := by unfold mx; split <;> omega
        have h3 : mn s.b.1 s.last.2 = s.b.1 := by unfold mn; split <;> omega
        have h4 : mx s.b.2 s.last.2 = s.b.2 := by unfold mx; split <;> omega
        rw [h1, h2, h3, h4]
      · rfl
    have ih := bn_lw d l (bnStep d s t).1 (by rw [hs]) (by
      rw [hs]; simp only [mn, mx]
      constructor <;> split <;> omega) (by
      rw [hs]; simp only [mn, mx]
      constructor <;> split <;> omega)
    rw [hs] at ih ⊢
    exact ih
theorem bnL_lw {d : Div} (ho : openI d = 0) : (bnL d).a = (lwL ((rtOf d).map (numsL d))).1 ∧ (bnL d).b = (lwL ((rtOf d).map (numsL d))).2 := by
  have hn := right_n (openI0 ho).1
  have hne := truthsOf_ne ho
  unfold bnL
  have hm : (rtOf d).map (numsL d) = (truthsOf d).map (numsL d) := by
    rw [truthsOf_rt hn.2, List.map_map]
    refine List.map_congr_left fun u _ => ?_
    show _ = numsL d (pad u)
    rw [nums_pad]
  rw [hm]
  cases ht : truthsOf d with
  | nil => exact absurd ht hne
  | cons t l =>
    rw [foldS_cons, if_pos (bnStep_2 d _ t), List.map_cons]
    have hs : (bnStep d bn0 t).1 = ⟨false, ((numsL d t).1, (numsL d t).1), ((numsL d t).2, (numsL d t).2), numsL d t⟩ := by unfold bnStep bn0; rfl
    have := bn_lw d l (bnStep d bn0 t).1 (by rw [hs]) (by rw [hs]; exact ⟨Int.le_refl _, Int.le_refl _⟩) (by rw [hs]; exact ⟨Int.le_refl _, Int.le_refl _⟩)
    rw [hs] at this ⊢
    exact this
/-- What a heap holds while the law goes through the truths. -/
structure HLw (D : List RV) (A B : AV) (a b : Int × Int) (H : List Blk) : Prop where
  d : H[0]? = some (.cells (rs D) ty_ref07_Division 0)
  p1 : H[1]? = some (.cells A.cells ty_tally_Range 0)
  p2 : H[2]? = some (.cells B.cells ty_tally_Range 0)
  a : H[4]? = some (.cells [i64 a.1, i64 a.2] ty_tally_Range 1)
  b : H[5]? = some (.cells [i64 b.1, i64 b.2] ty_tally_Range 1)
section
variable {d : Div} {a0 a1 n0 n1 p q : RV}
theorem law_bounds_loop (hs : DivS d a0 a1 n0 n1 p q) (hb : Small d) (hr : rightB d = true) {vs : List RV} {us : List (List Int)} (hvs : SlT vs us) (hul : ∀ u ∈ us, u.length = d.n.toNat ∧ VOk u) (hcnt : us.length < 2 ^ 62) {A B f : AV} :
    ∀ (k i : Nat) (ab : (Int × Int) × (Int × Int)) (s : St), i + k = us.length → ekeep [1, 5, 6, 7, 9, 11, 12, 13] s.env = [(1, .own 0 0 0), (5, .own 1 0 0), (6, .own 2 0 0), (7, f), (9, .r (.sl vs us.length none)), (11, .own 4 1 0), (12, .own 5 1 0), (13, i64 i)] → HLw (divC d a0 a1 n0 n1 p q) A B ab.1 ab.2 s.m.h → s.defs = [] →
      ∃ s', Loop C [1, 5, 6, 7, 9, 11, 12, 13] l_law07_TallyBounds_0 s (.exit 0) s' ∧ HLw (divC d a0 a1 n0 n1 p q) A B (((us.drop i).map (numsL d)).foldl lwStep ab).1 (((us.drop i).map (numsL d)).foldl lwStep ab).2 s'.m.h ∧ s'.defs = [] ∧
        ekeep [5, 6, 7, 11, 12] s'.env = [(5, .own 1 0 0), (6, .own 2 0 0), (7, f), (11, .own 4 1 0), (12, .own 5 1 0)] := by
  intro k
  induction k with
  | zero =>
    intro i ab s hi he hH hd
    have e0 : ((i : Int) < (us.length : Int)) = False := eq_false (by omega)
    have : us.drop i = [] := List.drop_eq_nil_of_le (by omega)
    rw [this]
    exact ⟨_, .stop (.of fun K => by rw [he]; simp [l_law07_TallyBounds_0, lenOf, e0]; rfl) (by simp), by simpa using hH, by simp [hd], by simp⟩
  | succ k ih =>
    intro i ab s hi he hH hd
    obtain ⟨M, hMM⟩ : ∃ M, M = s.m := ⟨_, rfl⟩
    obtain ⟨H, W⟩ := M
    rw [← hMM] at hH
    simp only at hH
    have e0 : ((i : Int) < (us.length : Int)) = True := eq_true (by omega)
    have w1 : IntKind.wrap .i64 ((i : Int) + 1) = i + 1 := by rw [w64] <;> omega
    have hil : i < us.length := by omega
    obtain ⟨u, hu⟩ : ∃ u, u = us[i] := ⟨_, rfl⟩
    have hum := hul u (by rw [hu]; exact List.getElem_mem hil)
    have hvl := hvs.length
    obtain ⟨v, hv1, hv2⟩ := hvs.getR (i := i) (y := u) (by rw [hu]; exact List.getElem?_eq_getElem hil)
    have hat : atOf 1 (.r (.sl vs us.length none)) (i : Int) = some (.r (.ptr (vs.drop i))) := by
      simp only [atOf]; rw [if_pos ⟨by omega, by omega⟩]; simp
    have hld : ∀ m, loadV m (.r (.ptr (vs.drop i))) 1 false = some (.r v) := fun m => by
      obtain ⟨h1, h2⟩ := List.getElem?_eq_some_iff.1 hv1
      rw [List.drop_eq_getElem_cons h1, load_cons, h2]
    obtain ⟨Hd, hHd⟩ : ∃ Hd, Hd = H ++ [Blk.dead] := ⟨_, rfl⟩
    obtain ⟨c1, k1⟩ := refOf_spec hs hb hr hv2 hum.1 hum.2 { h := Hd }
    obtain ⟨n, hn⟩ : ∃ n, n = numsL d u := ⟨_, rfl⟩
    rw [← hn] at k1
    simp only [nmR] at k1
    have hdrop : us.drop i = u :: us.drop (i + 1) := by rw [hu]; exact List.drop_eq_getElem_cons hil
    have hd11 : (divC d a0 a1 n0 n1 p q).length = 11 := rfl
    obtain ⟨D, hD⟩ : ∃ D, D = divC d a0 a1 n0 n1 p q := ⟨_, rfl⟩
    rw [← hD] at k1 hH hd11 ih ⊢
    have hDt : List.take 11 (rs D) = rs D := List.take_of_length_le (by rw [rs_len]; omega)
    have hl5 := getElem?_lt hH.b
    have gD : Hd[0]? = some (.cells (rs D) ty_ref07_Division 0) := by rw [hHd, List.getElem?_append_left (by omega)]; exact hH.d
    have gN : Hd[H.length]? = some .dead := by simp [hHd]
    have gD2 : ∀ h, Hd[0]'h = .cells (rs D) ty_ref07_Division 0 := fun h => by have := gD; rw [List.getElem?_eq_getElem h] at this; exact Option.some.inj this
    have gN2 : ∀ h, Hd[H.length]'h = .dead := fun h => by have := gN; rw [List.getElem?_eq_getElem h] at this; exact Option.some.inj this
    have hset0 : ∀ b, Hd.set H.length b = H ++ [b] := fun b => by simp [hHd]
    have hdl : Hd.length = H.length + 1 := by simp [hHd]
    obtain ⟨H2, hH2⟩ : ∃ H2, H2 = H ++ [.cells [i64 n.1, i64 n.2] ty_ref07_Numbers 1] := ⟨_, rfl⟩
    have hset : ∀ x b, (H ++ [x]).set H.length b = H ++ [b] := fun x b => by simp
    have hget : ∀ x, (H ++ [x])[H.length]? = some x := fun x => by simp
    have g2a : H2[4]? = some (.cells [i64 ab.1.1, i64 ab.1.2] ty_tally_Range 1) := by rw [hH2, List.getElem?_append_left (by omega)]; exact hH.a
    have g2b : H2[5]? = some (.cells [i64 ab.2.1, i64 ab.2.2] ty_tally_Range 1) := by rw [hH2, List.getElem?_append_left (by omega)]; exact hH.b
    have g2n : H2[H.length]? = some (.cells [i64 n.1, i64 n.2] ty_ref07_Numbers 1) := by simp [hH2]
    have g2n2 : ∀ h, H2[H.length]'h = .cells [i64 n.1, i64 n.2] ty_ref07_Numbers 1 := fun h => by have := g2n; rw [List.getElem?_eq_getElem h] at this; exact Option.some.inj this
    have l2 : H2.length = H.length + 1 := by simp [hH2]
    have ne0 : (H.length = 0) = False := eq_false (by omega)
    have ne0' : (0 = H.length) = False := eq_false (by omega)
    have ne4 : (4 = H.length) = False := eq_false (by omega)
    have ne4' : (H.length = 4) = False := eq_false (by omega)
    have ne5 : (5 = H.length) = False := eq_false (by omega)
    obtain ⟨alo, halo⟩ : ∃ z, z = mn ab.1.1 n.1 := ⟨_, rfl⟩
    obtain ⟨ahi, hahi⟩ : ∃ z, z = mx ab.1.2 n.1 := ⟨_, rfl⟩
    obtain ⟨blo, hblo⟩ : ∃ z, z = mn ab.2.1 n.2 := ⟨_, rfl⟩
    obtain ⟨bhi, hbhi⟩ : ∃ z, z = mx ab.2.2 n.2 := ⟨_, rfl⟩
    have m1 : (if n.1 < ab.1.1 then n.1 else ab.1.1) = alo := halo.symm
    have m2 : (if ab.1.2 < n.1 then n.1 else ab.1.2) = ahi := hahi.symm
    have m3 : (if n.2 < ab.2.1 then n.2 else ab.2.1) = blo := hblo.symm
    have m4 : (if ab.2.2 < n.2 then n.2 else ab.2.2) = bhi := hbhi.symm
    have hstep : lwStep ab n = ((alo, ahi), (blo, bhi)) := by rw [halo, hahi, hblo, hbhi]; rfl
    obtain ⟨H3, hH3⟩ : ∃ H3, H3 = H2.set 4 (.cells [i64 alo, i64 ahi] ty_tally_Range 1) := ⟨_, rfl⟩
    have g3b : H3[5]? = some (.cells [i64 ab.2.1, i64 ab.2.2] ty_tally_Range 1) := by rw [hH3, List.getElem?_set_ne (by omega)]; exact g2b
    obtain ⟨H4, hH4⟩ : ∃ H4, H4 = H3.set 5 (.cells [i64 blo, i64 bhi] ty_tally_Range 1) := ⟨_, rfl⟩
    have q3 : H3.length = H2.length := by simp [hH3]
    have hHL : HLw D A B (alo, ahi) (blo, bhi) H4 := by
      refine ⟨?_, ?_, ?_, ?_, ?_⟩
      · rw [hH4, List.getElem?_set_ne (by omega), hH3, List.getElem?_set_ne (by omega), hH2, List.getElem?_append_left (by omega)]; exact hH.d
      · rw [hH4, List.getElem?_set_ne (by omega), hH3, List.getElem?_set_ne (by omega), hH2, List.getElem?_append_left (by omega)]; exact hH.p1
      · rw [hH4, List.getElem?_set_ne (by omega), hH3, List.getElem?_set_ne (by omega), hH2, List.getElem?_append_left (by omega)]; exact hH.p2
      · rw [hH4, List.getElem?_set_ne (by omega), hH3, List.getElem?_set_self (by omega)]
      · rw [hH4, List.getElem?_set_self (by omega)]
    have hrd : ∃ s1, Den C l_law07_TallyBounds_0 { s with env := ekeep [1, 5, 6, 7, 9, 11, 12, 13] s.env } .norm s1 ∧ ekeep [1, 5, 6, 7, 9, 11, 12, 13] s1.env = [(1, .own 0 0 0), (5, .own 1 0 0), (6, .own 2 0 0), (7, f), (9, .r (.sl vs us.length none)), (11, .own 4 1 0), (12, .own 5 1 0), (13, i64 (i + 1 : Nat))] ∧ s1.m.h = H4 ∧ s1.defs = [] := by
      exact ⟨_, .ofN ⟨c1, fun j hj => by
        rw [he]
        simp [l_law07_TallyBounds_0, allR_rs, lenOf, dn_drawF, sd_slot, denF, denFI, stepF, slotFree, slotOf, foot, avIdx, wrAll, pairsOk, apartL, ← hMM, e0, w1, hat, hld, ← hHd, gD, gN, gD2, gN2, g2n2, hget, hset, hset0, hdl, rs_len, hd11, hDt, k1 j hj, ← hH2, ne0, ne0', ne4, ne4', ne5, g2a, g2b, g2n, l2, m1, m2, m3, m4, allR, AV.toR, mkAgg, ← hH3, g3b, q3, ← hH4]
        rfl⟩, by simp, by simp, by simp [hd]⟩
    obtain ⟨s1, r1, r2, r3, r4⟩ := hrd
    obtain ⟨s', h1, h2, h3, h4⟩ := ih (i + 1) ((alo, ahi), (blo, bhi)) s1 (by omega) r2 (by rw [r3]; exact hHL) r4
    refine ⟨s', .more r1 h1, ?_, h3, h4⟩
    rw [hdrop, List.map_cons, List.foldl_cons, ← hn, hstep]
    exact h2
end
end Go.AM.T
/- What the functions compute (own work). -/
namespace Go.AM.T
open Go Go.AM
attribute [local simp] so_mov so_pick so_alloc so_box so_build so_slit so_load so_store so_nilc so_bin so_beq so_eqs so_eqn so_eqnl so_not so_conv so_s2b so_mkfn so_slcA so_padd so_fld so_idxA so_idxV so_idxT so_look so_mupd so_mkmap so_mksl so_ext so_app so_lenT so_lenM so_min so_max so_cpy so_clr so_mkif so_tass so_lenS so_idxS so_slc
attribute [local simp] dn_skip dn_label dn_ret dn_exit dn_scope dn_keep dn_reg dn_draw0 noSlots denE denEI stepE  sd_mov sd_pick sd_build sd_load sd_store sd_nilc sd_bin sd_beq sd_eqs sd_eqn sd_eqnl sd_not sd_conv sd_s2b sd_mkfn sd_slc sd_slcA sd_padd sd_fld sd_idxS sd_idxA sd_idxV sd_idxT sd_look sd_mupd sd_ext sd_app sd_lenS sd_lenT sd_lenM sd_min sd_max sd_mkif sd_tass sd_call sd_slit dn_seq dn_cond dn_block dn_loop kn_call denIs denI denOp wants ev eget putD binL enumFrom AV.bool? AV.int? ekeep evs evp runV fin runDefs resAll resOf tupOf unit AV.cells okV ok1 Value.oneCell' fill setN rcells rs_nil rs_cons load_own load_cons mkAgg_rs storeN jmpOut
attribute [local simp] dvL dv1t dvAt mkAgg2 dv0 dv1 dv2 dv3 dv4 dv5 dv6 dv7 dv8 dv9 dv10 dvA dvN dvAll C_fz fzr
section
variable {d : Div} {a0 a1 n0 n1 p q : RV}
theorem small_few {d : Div} (h : smallB d = true) : fewB d = true := by
  unfold smallB at h
  split at h
  · rename_i h1; exact h1.1
  · exact h
theorem rt_ok {d : Div} : ∀ u ∈ rtOf d, u.length = d.n.toNat ∧ VOk u := fun u hu => ⟨by have := rtF_len _ _ _ hu; simpa using this, rtF_ok _ _ _ (by simp [VOk]) hu⟩
theorem rtOf_ne {d : Div} (ho : openI d = 0) : rtOf d ≠ [] := by
  have h := truthsOf_ne ho
  rw [truthsOf_rt (right_n (openI0 ho).1).2] at h
  simpa using h
theorem TallyBounds_spec (hs : DivS d a0 a1 n0 n1 p q) (hb : Small d) (hru : 0 ≤ d.rule ∧ d.rule ≤ 255) : CallR C (fnv fn_law07_TallyBounds) [.r (.agg (divC d a0 a1 n0 n1 p q))] { h := [] } (.ret (bo true) { h := [] }) := by
  have hd11 : (divC d a0 a1 n0 n1 p q).length = 11 := rfl
  obtain ⟨c1, k1⟩ := lawsmall_spec hs hb { h := [.cells (rs (divC d a0 a1 n0 n1 p q)) ty_ref07_Division 0] }
  obtain ⟨c2, k2⟩ := wakes_spec { h := [.cells (rs (divC d a0 a1 n0 n1 p q)) ty_ref07_Division 0] }
  obtain ⟨D, hD⟩ : ∃ D, D = divC d a0 a1 n0 n1 p q := ⟨_, rfl⟩
  cases es : smallB d with
  | false =>
    rw [es] at k1
    rw [← hD] at k1 k2 hd11 ⊢
    have hDt : List.take 11 (rs D) = rs D := List.take_of_length_le (by rw [rs_len]; omega)
    exact CallR.eval (m1 := { h := [.cells (rs D) ty_ref07_Division 0] }) rfl rfl prog_law07_TallyBounds rfl ⟨c1 + c2, fun k hk => by simp [a_law07_TallyBounds, rs_len, hd11, hDt, k1 k (by omega), k2 k (by omega)]⟩ (by simp) (by simp)
  | true =>
  rw [es] at k1
  have hfew := small_few es
  obtain ⟨c3, k3⟩ := lawDivision_spec hs hfew { h := [.cells (rs (divC d a0 a1 n0 n1 p q)) ty_ref07_Division 0] }
  obtain ⟨c4, k4⟩ := Doubts_spec (copyS d) hb hru { h := [.cells (rs (divC d a0 a1 n0 n1 p q)) ty_ref07_Division 0] }
  obtain ⟨c5, k5⟩ := Bounds_spec (copyS d) hb hru { h := [.cells (rs (divC d a0 a1 n0 n1 p q)) ty_ref07_Division 0] }
  rw [show divC d (listV d.a0) (listV d.a1) (listV d.n0) (listV d.n1) (pairV d.pairs) (pairV d.proxies) = copyC d from rfl] at k4 k5
  obtain ⟨A, hA⟩ : ∃ A, A = (if openI d = 0 then (bnL d).a else (0, 0)) := ⟨_, rfl⟩
  obtain ⟨B, hB⟩ : ∃ B, B = (if openI d = 0 then (bnL d).b else (0, 0)) := ⟨_, rfl⟩
  rw [← hA, ← hB] at k5
  simp only [nmR] at k5
  obtain ⟨H, hH⟩ : ∃ H : List Blk, H = [.cells (rs D) ty_ref07_Division 0, .cells [i64 A.1, i64 A.2] ty_tally_Range 0, .cells [i64 B.1, i64 B.2] ty_tally_Range 0] := ⟨_, rfl⟩
  obtain ⟨c6, k6⟩ := lawfault_spec hs hb { h := H, wr := [2, 1] }
  obtain ⟨c7, k7⟩ := wakes_spec { h := H, wr := [2, 1] }
  obtain ⟨X, hX⟩ : ∃ X, X = copyC d := ⟨_, rfl⟩
  rw [← hX] at k3 k4 k5
  have g0 : H[0]? = some (.cells (rs D) ty_ref07_Division 0) := by rw [hH]; rfl
  have g1 : H[1]? = some (.cells [i64 A.1, i64 A.2] ty_tally_Range 0) := by rw [hH]; rfl
  have g2 : H[2]? = some (.cells [i64 B.1, i64 B.2] ty_tally_Range 0) := by rw [hH]; rfl
  have q0 : ∀ h, H[0]'h = .cells (rs D) ty_ref07_Division 0 := fun h => by have := g0; rw [List.getElem?_eq_getElem h] at this; exact Option.some.inj this
  have q1 : ∀ h, H[1]'h = .cells [i64 A.1, i64 A.2] ty_tally_Range 0 := fun h => by have := g1; rw [List.getElem?_eq_getElem h] at this; exact Option.some.inj this
  have q2 : ∀ h, H[2]'h = .cells [i64 B.1, i64 B.2] ty_tally_Range 0 := fun h => by have := g2; rw [List.getElem?_eq_getElem h] at this; exact Option.some.inj this
  by_cases hf : faultI d = 0
  · rw [hf] at k6 k4
    rw [if_pos rfl] at k4
    obtain ⟨hr, _⟩ := faultI0 hf
    obtain ⟨c8, k8⟩ := refDoubts_spec hs hb (right_n hr) { h := H, wr := [2, 1] }
    obtain ⟨c9, k9⟩ := law07_ints_spec (Sl.slI (doubtsL d)) (Sl.slI (doubtsL d)) (by have := doubtsL_len d; have := right_n hr; omega) { h := H, wr := [2, 1] }
    obtain ⟨c10, k10⟩ := lawopen_spec hs hb { h := H, wr := [2, 1] }
    rw [decide_eq_true rfl] at k9
    obtain ⟨S, hS⟩ : ∃ S, S = slI (doubtsL d) := ⟨_, rfl⟩
    rw [← hS] at k4 k8 k9
    by_cases ho : openI d = 0
    · rw [ho] at k5 k10
      rw [if_pos ho] at hA hB
      obtain ⟨vs, ⟨c11, k11⟩, hvs⟩ := refTruths_spec hs hb ho { h := H, wr := [2, 1] }
      have hvl := hvs.length
      have hne := rtOf_ne ho
      have hcnt := rtOf_count (openI0 ho).2.2
      obtain ⟨b1, b2⟩ := bnL_lw ho
      rw [b1] at hA
      rw [b2] at hB
      obtain ⟨u, us, hus⟩ : ∃ u us, rtOf d = u :: us := by
        cases h : rtOf d with
        | nil => exact absurd h hne
        | cons u us => exact ⟨u, us, rfl⟩
      obtain ⟨v, vs', hvs'⟩ : ∃ v vs', vs = v :: vs' := by
        cases h : vs with
        | nil => rw [h, hus] at hvl; simp at hvl
        | cons v vs' => exact ⟨v, vs', rfl⟩
      have hv2 : Sl (ints .u8 u) u.length v := by
        rw [hvs', hus] at hvs
        cases hvs with
        | cons h t => exact h
      have hum := rt_ok (d := d) u (by rw [hus]; simp)
      have hHd : H ++ [Blk.dead] = [.cells (rs D) ty_ref07_Division 0, .cells [i64 A.1, i64 A.2] ty_tally_Range 0, .cells [i64 B.1, i64 B.2] ty_tally_Range 0, .dead] := by rw [hH]; rfl
      have hH3 : H.length = 3 := by rw [hH]; rfl
      obtain ⟨c12, k12⟩ := refOf_spec hs hb hr hv2 hum.1 hum.2 { h := [.cells (rs D) ty_ref07_Division 0, .cells [i64 A.1, i64 A.2] ty_tally_Range 0, .cells [i64 B.1, i64 B.2] ty_tally_Range 0, .dead] }
      obtain ⟨n, hn⟩ : ∃ n, n = numsL d u := ⟨_, rfl⟩
      rw [← hn] at k12
      simp only [nmR] at k12
      obtain ⟨H5, hH5⟩ : ∃ H5 : List Blk, H5 = [.cells (rs D) ty_ref07_Division 0, .cells [i64 A.1, i64 A.2] ty_tally_Range 0, .cells [i64 B.1, i64 B.2] ty_tally_Range 0, .cells [i64 n.1, i64 n.2] ty_ref07_Numbers 1, .cells [i64 n.1, i64 n.1] ty_tally_Range 1, .cells [i64 n.2, i64 n.2] ty_tally_Range 1] := ⟨_, rfl⟩
      have hHL : HLw (divC d a0 a1 n0 n1 p q) (.agg [i64 A.1, i64 A.2]) (.agg [i64 B.1, i64 B.2]) (n.1, n.1) (n.2, n.2) H5 := by
        rw [hH5, ← hD]
        exact ⟨rfl, rfl, rfl, rfl, rfl⟩
      obtain ⟨WW, hWW⟩ : ∃ WW : List Nat, WW = [5, 4, 5, 4, 3, 3, 2, 1] := ⟨_, rfl⟩
      have hlt : (1 : Nat) + us.length = (rtOf d).length := by rw [hus]; simp; omega
      obtain ⟨s', l1, hHL', hdf, he'⟩ := law_bounds_loop hs hb hr hvs rt_ok (by omega) (A := .agg [i64 A.1, i64 A.2]) (B := .agg [i64 B.1, i64 B.2]) (f := i64 0) us.length 1 ((n.1, n.1), (n.2, n.2)) { env := [(13, i64 1), (1, .own 0 0 0), (5, .own 1 0 0), (6, .own 2 0 0), (7, i64 0), (9, .r (.sl vs (rtOf d).length none)), (11, .own 4 1 0), (12, .own 5 1 0)], m := { h := H5, wr := WW } } hlt (by simp) hHL rfl
      have hfin : (((rtOf d).drop 1).map (numsL d)).foldl lwStep ((n.1, n.1), (n.2, n.2)) = (A, B) := by
        rw [hA, hB, hus]
        simp only [List.map_cons, lwL, List.drop_succ_cons, List.drop_zero, lw0, hn]
      rw [hfin] at hHL'
      obtain ⟨c13, k13⟩ := l1.get
      obtain ⟨c14, k14⟩ := wakes_spec s'.m
      have he5 : eget s'.env 5 = .own 1 0 0 ∧ eget s'.env 6 = .own 2 0 0 ∧ eget s'.env 7 = i64 0 ∧ eget s'.env 11 = .own 4 1 0 ∧ eget s'.env 12 = .own 5 1 0 := by simpa [ekeep] using he'
      obtain ⟨f5, f6, f7, f11, f12⟩ := he5
      have p1 := hHL'.p1
      have p2 := hHL'.p2
      have pa := hHL'.a
      have pb := hHL'.b
      simp only [AV.cells] at p1 p2
      obtain ⟨M, hM⟩ : ∃ M, M = s'.m := ⟨_, rfl⟩
      rw [← hM] at p1 p2 pa pb k14
      have hat : atOf 1 (.r (.sl vs (rtOf d).length none)) 0 = some (.r (.ptr vs)) := by
        simp only [atOf]; rw [if_pos ⟨by omega, by omega⟩]; simp
      have hld : ∀ m, loadV m (.r (.ptr vs)) 1 false = some (.r v) := fun m => by rw [hvs', load_cons]
      rw [← hD] at k1 k2 k3 k4 k5 k6 k8 k10 k11 k12 hd11 ⊢
      have hDt : List.take 11 (rs D) = rs D := List.take_of_length_le (by rw [rs_len]; omega)
      refine CallR.eval (m1 := M) rfl rfl prog_law07_TallyBounds rfl ⟨c1 + c2 + c3 + c4 + c5 + c6 + c7 + c8 + c9 + c10 + c11 + c12 + c13 + c14, fun k hk => ?_⟩ (by simp) (by simp)
      have k13 := k13 k (by omega)
      simp [a_law07_TallyBounds, rs_len, hd11, hDt, k1 k (by omega), k3 k (by omega), k4 k (by omega), k5 k (by omega), k6 k (by omega), k8 k (by omega), k9 k (by omega), k10 k (by omega), k11 k (by omega), ← hH, g0, q0, q1, q2, allR, AV.toR, mkAgg, allR_rs, hat, hld, dn_drawF, sd_slot, denF, denFI, stepF, slotFree, slotOf, foot, avIdx, wrAll, pairsOk, apartL, hHd, hH3, k12 k (by omega), ← hWW, ← hH5, k13, hdf, f5, f6, f7, f11, f12, p1, p2, pa, pb, k14 k (by omega), ← hM, rvEqs, rvEq]
    · have ho3 : openI d = 3 := by unfold openI at ho ⊢; rw [if_pos hf] at ho ⊢; split at ho <;> simp_all
      rw [ho3] at k5 k10
      rw [if_neg ho] at hA hB
      subst hA hB
      have hs12 : (H.set 1 (.cells [i64 0, i64 0] ty_tally_Range 0)).set 2 (.cells [i64 0, i64 0] ty_tally_Range 0) = H := by rw [hH]; rfl
      rw [← hD] at k1 k2 k3 k4 k5 k6 k8 k10 hd11 ⊢
      have hDt : List.take 11 (rs D) = rs D := List.take_of_length_le (by rw [rs_len]; omega)
      refine CallR.eval (m1 := { h := H, wr := [2, 1] }) rfl rfl prog_law07_TallyBounds rfl ⟨c1 + c2 + c3 + c4 + c5 + c6 + c7 + c8 + c9 + c10, fun k hk => ?_⟩ (by simp) (by simp)
      simp [a_law07_TallyBounds, rs_len, hd11, hDt, k1 k (by omega), k3 k (by omega), k4 k (by omega), k5 k (by omega), k6 k (by omega), k7 k (by omega), k8 k (by omega), k9 k (by omega), k10 k (by omega), ← hH, hs12, g0, g1, g2, q0, q1, q2, allR, AV.toR, mkAgg, allR_rs, rvEqs, rvEq]
  · have ho : openI d = faultI d := by unfold openI; rw [if_neg hf]
    have ho' : openI d ≠ 0 := by rw [ho]; exact hf
    rw [if_neg ho'] at hA hB
    subst hA hB
    have hs12 : (H.set 1 (.cells [i64 0, i64 0] ty_tally_Range 0)).set 2 (.cells [i64 0, i64 0] ty_tally_Range 0) = H := by rw [hH]; rfl
    rw [ho] at k5
    rw [if_neg hf] at k4
    obtain ⟨z, hz⟩ : ∃ z, z = faultI d := ⟨_, rfl⟩
    rw [← hz] at hf k4 k5 k6
    have hz' : (z == 0) = false := by simpa using hf
    rw [← hD] at k1 k2 k3 k4 k5 k6 hd11 ⊢
    have hDt : List.take 11 (rs D) = rs D := List.take_of_length_le (by rw [rs_len]; omega)
    refine CallR.eval (m1 := { h := H, wr := [2, 1] }) rfl rfl prog_law07_TallyBounds rfl ⟨c1 + c2 + c3 + c4 + c5 + c6 + c7, fun k hk => ?_⟩ (by simp) (by simp)
    simp [a_law07_TallyBounds, rs_len, hd11, hDt, k1 k (by omega), k3 k (by omega), k4 k (by omega), k5 k (by omega), k6 k (by omega), k7 k (by omega), hf, hz', lenOf, ← hH, hs12, g0, g1, g2, q0, q1, q2, allR, AV.toR, mkAgg, allR_rs, rvEqs, rvEq]
end
end Go.AM.T
